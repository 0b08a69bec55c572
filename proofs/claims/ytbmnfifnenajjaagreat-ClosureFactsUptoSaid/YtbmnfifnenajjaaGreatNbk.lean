/- Part of the proof. -/
import Derived.Test.YtbmnfifnenajjaaGreatNbj
set_option linter.all false
noncomputable section
open Option renaming some->A,none->O,getD->Option.g,bind->Option.b
open _root_ renaming rfl->B,List->C,Nat->D,Int->K,if_neg->Ad,if_pos->Af,Bool->Ah,cond->Aj,decide_eq_true->A0,decide_eq_false->A2,absurd->BF
open Bool renaming true->L,false->Aa
open Decidable renaming decide->Ao
open List renaming replicate->BG,length->List.l,map->List.m,take->List.t,drop->List.d,toArray->List.a,flatMap->List.f
open Nat renaming le_refl->CK
open Go.IntKind renaming i64->Go.IntKind.n
open Array renaming toList->Array.l,size->Array.z
open Eq renaming trans->Eq.t,symm->Eq.s
open Or renaming inl->Or.i,inr->Or.j
open Int renaming toNat->Int.n
namespace Go.Proofs.YtbmnfifnenajjaaGreat
open Go.Fg Go.Sort
def Qr(a:AK)(b:D):N:=(((a.AG[b]?).g [])[0]?).g AO
def TT(c:C Ab)(a:AK)(b:D):Ah:=match(F4 c a).Av[b]?with
 |some d=>Ao (d.op=12)&&(Ao (0<(a.AS[b]?).g 0)&&Ao ((Qr a b).Ak=0))
 |none=>Aa
def Lh(f:C Ab)(b:Ai)(a:AK)(c e:D):C Bt:=((List.range e).filter (TT f a)).m λ(d:D)=>⟨FX b c,(d:K)⟩
def Ms(c:C Ab)(a:Ai):D->C Bt
 |0=>[]
 |b+1=>Ms c a b++(match a.Ac[b]?with|some d=>Lh c a d b (F4 c d).Av.l|none=>[])
def Mv(b:C Ab)(a:Ai):C Bt:=VT (Ms b a a.Ac.l)
def i4(e:C _)(c:Ai)(b:AK)(d a:D):Lh e c b d (a+1)=Lh e c b d a++(if TT e b a=L then[⟨FX c d,a⟩]else[]):=by unfold Lh;rw[AeX,List.filter_append,Aes];grind
def b3(e:C Ab)(c:Ai)(b:AK)(d a:D):(Lh e c b d a).l<=a:=by unfold Lh;grind
def VD{c:C Ab}(e:BD c){b:Ai}(f:CF c b):∀a,(Ms c b a).l<=a*400
 |0=>CK _
 |a+1=>by
  unfold Ms
  rw[AdY,Afe]
  refine Nat.add_le_add (VD e f a) ?_
  cases j:b.Ac[a]?with
  |none=>grind
  |some g=>
   let⟨h,i,d⟩:=f.BC a g j
   simp only[];rw[d.Ca];exact Aem (b3 c b g a _) (e.Bc h i d.hb).Av
structure WI(d:G)(e:F)(c:G)(b:C WE):Prop where
 Cs:Aw c e CG 2 b
 ro:∀a∈b,Ro c a.1 Bf.c 2 a.2.B4
 A7:∀a∈b,a.2.B4.l<1000000000
 HF:∀a∈b,∀f,¬As a.1 f->As e f
 E:AH d c
 fu:Dx d e
 fx:∀a∈b,Dx d a.1
def WI.ext{f d e:G}{g:F}{b:C _}(a:WI f g d b)(c:AH d e):WI f g e b:=
 ⟨a.Cs.ext c,λi h=>(a.ro i h).Ar P,a.A7,a.HF,a.E.AI c,a.fu,a.fx⟩
def Ro.Cz{k:Type}{b:G}{d:F}{g:k->C _}{j:D}{h:C _}(i:Ro b d g j h){a:T}(c:¬As d a):Lv b a:=by
 rcases i with⟨rfl,_⟩|⟨e,l,rfl,_,m⟩;.exact BF (Cg a) c
 .by_cases f:e=a;.grind
  .exact BF (EN f) c
def WI.add{r q:G}{o c:F}{m:C _}{e:C Bf}{g:K}{l:G}(h:WI r o q m)(t:Aw l c Bf.c 2 e)(J:AH q l)(I:Dx q c)(X:e.l<1000000)(W:m.l<1000000):∃p n,Cb [.sn,(.n 0)] [(0,1),(1,1)] [c,.n g]=A (.S (CG (c,⟨e,g⟩)))/\(∀(v:F×G->R),((Dq 1 2 l.next [.S (CG (c,⟨e,g⟩))]).b λb=>(DN 2 32 (G.V l b.1) [o,b.2]).b v)=v (p,n))/\WI r p n (m++[(c,⟨e,g⟩)]):=by
 have k:=h.ext J;have S:BU (CG (c,⟨e,g⟩))=L:=by unfold CG;rw[DJ];simp[(Cr t).2]
 let⟨p,n,T,U,Q,z⟩:=FJ (f:=CG) (w:=2) (b:=((c,⟨e,g⟩))) (o:=.S (CG (c,⟨e,g⟩))) (h:=32) (λ_=>B) S B k.Cs (DG (by omega))
 have V:∀b,¬As c b->As o b:=λb s=>AdS λM=>s (I b (h.Cs.Cz M));have H:∀a∈m++[((c,⟨e,g⟩))],Ro l a.1 Bf.c 2 a.2.B4/\(∀b,¬As a.1 b->As o b)/\a.2.B4.l<1000000000/\Dx r a.1:=λa d=>by
  rcases Aej.1 d with d|d;.exact⟨k.ro a d,h.HF a d,h.A7 a d,h.fx a d⟩
  .have:a=(c,⟨e,g⟩):=by grind
   subst this;exact⟨t.ro,V,by grind,λj i=>I j (h.E.lv i)⟩
 refine⟨p,n,?_,T,U,λa d=> ?_,P,λa d b s=> ?_,λj i=> ?_,λj i=> ?_,P⟩;.rcases t with⟨rfl,_⟩|⟨_,_,rfl,_⟩<;>rfl
 .let⟨u,N,_⟩:=H a d
  exact u.Ar P
 .let⟨u,N,_⟩:=H a d
  exact z b (u.Cz s) P
 .have:=Q j (k.E.lv i) (h.fu j i);exact⟨this.1.t (k.E.M i),P⟩
 .exact z j (k.E.lv i) (h.fu j i)
def rE{c:CI}(xD:BD c.l){xX:T->Bm}{X:G}{g:Ai}{r:Lm}(xE:EB xX X c.l c.es c.k c.x g r)(xn:CF c.l g){a:D}{e:AK}(xv:g.Ac[a]? =A e){xx:D}{d:Ab}(E:Dw c.l xx d e)(y z:F){p:C WE}{xa:F}{j:G}(xA:WI X xa j p)(x5:p.l<500000):∃S R P,jj W9 88 4 [.n d.Av.l,Z Au.c d.Av,.p (r.pc a) 0,.n a,.n 0,.n a,y,z,.p c.x 0,xa] j=jj W9 88 3 [.n a,y,z,.p c.x 0,R] P/\WI X R P S/\S.m (·.2)=p.m (·.2)++Lh c.l g e a d.Av.l:=by
 have xl:=xD.Bc xx d E.hb;have x6:=xl.Av;have x9:=xn.A7;have x7:a<g.Ac.l:=by grind
 obtain⟨⟨S,R⟩,P,xd,xB,xT⟩:=Dh (h:=d.Av.l) (f:=λb x j=>jj W9 88 4 [.n d.Av.l,Z Au.c d.Av,.p (r.pc a) 0,.n a,.n b,.n a,y,z,.p c.x 0,x.2] j)
  (g:=λb x j=>WI X x.2 j x.1/\x.1.m (·.2)=p.m (·.2)++Lh c.l g e a b)
  (λb x j xw U=>by
   obtain⟨u,xj⟩:=x;obtain⟨U,xm⟩:=U;simp only[]at U xm⊢;obtain⟨q,v⟩:=Bb xw;have x1:=xl.Ax b q v;have xI:=Cm xw;obtain⟨xW,t,xR,xP,xy,xM,ye,yg⟩:=box j (.I 4 (Au.c q));obtain⟨x0,xY⟩:=EL j (b:=4) [(.i .u8 0),(.s []),(.n 0),.sn] (c:=Au.c q) xR xP B B;have xS:A9 4 j [.pi (Au.c q)]=A (.S (Au.c q)):=B;have xF:t.Ap xW 0=A (.i .u8 q.op):=Ay xM 0;have M:=U.ext xy;have xo:=xE.ext M.E;have J:=xo.BC a e xv;have Y:=i4 c.l g e a b;have m:TT c.l e b=(Ao (q.op=12)&&(Ao (0<(e.AS[b]?).g 0)&&Ao ((Qr e b).Ak=0))):=by unfold TT;rw[E.Ca,v]
   have yf:u.l<=p.l+b:=by
    have t:(u.m (·.2)).l=u.l:=by grind
    have xN:(p.m (·.2)).l=p.l:=by grind
    have xu:=b3 c.l g e a b;have xO:=AdW List.length xm;rw[AdY]at xO;omega
   by_cases xc:q.op=12
   .rw[A0 xc,Aep]at m;obtain⟨xt,xe⟩:=Bb (b:=e.AS) (a:=b) (by rw[E.AS];grind);rw[xe,Aeg]at m;have yi:=Ay J.M 6;obtain⟨xH,V⟩:=CD (f:=Be) (w:=1) (λ_=>B) J.AS xe;have yl:t.Ap xH (b*1)=A (.n xt):=by have:=V.Ap (f:=Be) (λ_=>B) xe (b:=0) (by grind);exact this
    by_cases xr:0<xt
    .rw[A0 xr,Aep]at m;have xf:b<e.AG.l:=by rw[E.AG];grind
     obtain⟨xi,xg⟩:=Bb xf;have x8:=E.AD b q xi v xg;have ya:C7 c.l q=1:=by unfold C7;omega
     obtain⟨xb,xh⟩:=Bb (b:=xi) (a:=0) (by omega);have xK:Qr e b=xb:=by unfold Qr;rw[xg,Aeg,xh];rfl
     rw[xK]at m;have yh:=Ay J.M 5;obtain⟨xG,xk⟩:=CD (f:=EE (r.og a)) (w:=1) (λ_=>B) J.AG (F9 xf);have yj:t.Ap xG (b*1)=A (r.og a b):=by have:=xk.Ap (f:=EE (r.og a)) (λ_=>B) (F9 xf) (b:=0) (by grind);exact this
     obtain⟨xq,xp⟩:=CD (f:=N.c) (w:=2) (λ_=>B) (J.AD b xi xg).1 xh;have yb:AR 2 [r.og a b,.n 0]=A (.p xq 0):=by have:=xp.ia;simpa using this
     have yk:t.AL xq 0 2=A (N.c xb):=by have:=xp.AL (f:=N.c) (λ_=>B) xh;simpa using this
     have W:=MD xb;have x3:DE [.b L]=A (.b Aa):=B;have x2:DE [.b Aa]=A (.b L):=B;by_cases xs:xb.Ak=0
     .rw[A0 xs]at W m;rw[Af m]at Y;obtain⟨xV,xN,yc,xU,xz,xL⟩:=gi xo xn xv;have xQ:(FX g a).l<1000000:=by unfold FX;rw[AfI];have:=SG g (a+1) a;omega
      obtain⟨xZ,xu,x4,yd,xC⟩:=M.add (g:=b) xU xz xL xQ (by omega);refine⟨(u++[(xV,⟨FX g a,b⟩)],xZ),xu,?_,xC,?_⟩;.show jj W9 88 4 _ _=jj W9 88 4 _ _;rw[II.2.2.2.2.2.1];simp only[QY,II.2.2.2.2.2.2.1,H (Fa v),H V.ia,H xk.ia,W.H B,QB,II.2.2.2.2.2.2.2,H (Bh (a:=b) (by omega)), *]
      .grind
     .rw[A2 xs]at W m;rw[m,Ad (by grind),Ad5]at Y;refine⟨(u,xj),t,?_,M,by grind⟩;show jj W9 88 4 _ _=jj W9 88 4 _ _;rw[II.2.2.2.2.2.1];simp only[QY,II.2.2.2.2.2.2.1,H (Fa v),H V.ia,H xk.ia,W.H B,QB,II.2.2.2.2.2.2.2,H (Bh (a:=b) (by omega)), *]
    .rw[A2 xr,AeO]at m;rw[m,Ad (by grind),Ad5]at Y;refine⟨(u,xj),t,?_,M,by grind⟩;show jj W9 88 4 _ _=jj W9 88 4 _ _;rw[II.2.2.2.2.2.1];simp only[QY,II.2.2.2.2.2.2.1,H (Fa v),H V.ia,QB,II.2.2.2.2.2.2.2,H (Bh (a:=b) (by omega)), *]
   .rw[A2 xc,AeO]at m;rw[m,Ad (by grind),Ad5]at Y;refine⟨(u,xj),t,?_,M,by grind⟩;show jj W9 88 4 _ _=jj W9 88 4 _ _;rw[II.2.2.2.2.2.1];simp only[↓x0,↓Q,↓QT,AdM,xI,II.2.2.2.2.2.2.1,↓H (Fa v),↓H xS,↓H xY,↓H xF,xc,QB,II.2.2.2.2.2.2.2,↓H (Bh (a:=b) (by omega))])
  (b:=(p,xa)) (a:=j) ⟨xA,by show p.m _=p.m _++Lh c.l g e a 0;unfold Lh;simp⟩
 have xd:jj W9 88 4 [.n d.Av.l,Z Au.c d.Av,.p (r.pc a) 0,.n a,.n 0,.n a,y,z,.p c.x 0,xa] j=jj W9 88 4 [.n d.Av.l,Z Au.c d.Av,.p (r.pc a) 0,.n a,.n d.Av.l,.n a,y,z,.p c.x 0,R] P:=xd;have xJ:=CA d.Av.l;refine⟨S,R,P,?_,xB,xT⟩;rw[xd,II.2.2.2.2.2.1];simp only[↓Q,↓QT,AdM,xJ]
def qS{d:CI}(M:BD d.l){xi:T->Bm}{e:G}{a:Ai}{p:Lm}(y:EB xi e d.l d.es d.k d.x a p)(r:CF d.l a):∃m o g,W9 (pos 88) [.p d.x 0] e=A (m,o)/\WI e m o g/\g.m (·.2)=Mv d.l a:=by
 have xn:=y.M;have X:=Cp y.Ac;rw[Ad0]at X;have xv:=r.A7;let⟨⟨g,m⟩,xb,Q,c,S⟩:=Dh (h:=a.Ac.l) (f:=λb l e=>jj W9 88 2 [.n a.Ac.l,p.cv,.p d.x 0,.n b,l.2] e)
  (g:=λb l o=>WI e l.2 o l.1/\l.1.m (·.2)=Ms d.l a b)
  (λb l o v q=>by
   let⟨Z,xA⟩:=l
   let⟨q,V⟩:=q
   simp only[]at q V⊢;let⟨z,u⟩:=Bb v
   have xs:=Cm v;let⟨xf,xp,x⟩:=r.BC b z u
   have N:=y.ext q.E;let⟨xq,xx,xz⟩:=N.Lf u
   have xB:=N.M;have xr:o.Ap (p.pc b) 0=A (.n xf):=by rw[Ay (N.BC b z u).M];show A (F.n z.Bc)=_;rw[x.ha]
   have xw:Z.l<=b*400:=by have t:=VD M r b;grind
   let⟨U,xm,t,xe,xa,xg⟩:=rE M y r u x (.n a.Ac.l) p.cv q (by omega)
   refine⟨(U,xm),t,?_,xa,?_⟩;.show jj W9 88 2 _ _=jj W9 88 2 _ _;rw[II.2.2.1];simp only[QY,II.2.2.2.1,H (CB x.hb),II.2.2.2.2.1,H (Bh (a:=b) (by omega)), *]
   .show U.m _=Ms d.l a b++(match a.Ac[b]?with|some z=>_|none=>_);rw[u,xg,V];simp only[];rw[x.Ca])
  (b:=([],.sn)) (a:=e) ⟨⟨Aw.sn e,P,P,P,AH.refl e,λw _=>Cg w,P⟩,B⟩
 have Q:jj W9 88 2 [.n a.Ac.l,p.cv,.p d.x 0,.n 0,.sn] e=jj W9 88 2 [.n a.Ac.l,p.cv,.p d.x 0,.n a.Ac.l,m] xb:=Q;have c:WI e m _ g:=c;have S:g.m _=Ms _ a a.Ac.l:=S;have xu:g.l<200000:=by have t:=VD M r a.Ac.l;grind
 have xk:SI g _ m _ _:=⟨c.Cs,λf k=>k,c.ro,c.A7,c.HF,λxy xd=>⟨λ_=>B,xd⟩⟩;let⟨t,j,xe,J,Y,xj⟩:=pc AaF xk (by omega)
 have xt:=CA a.Ac.l;have xl:j.z=g.l:=by rw[Y.1,AfQ]
 have xh:j.l.Perm g:=by have:=Y.2.2;rw[AfQ,<-xl,Array.extract_size]at this;grind
 refine⟨m,t,j.l,AZ B B ?_,⟨J.Cs,λf k=>J.ro f P,λf k=>c.A7 f P,λf k=>c.HF f P,λw E=> ?_,c.fu,λf k=>c.fx f P⟩,?_⟩;.rw[II.1];simp only[QY,xn,X];rw[Q,II.2.2.1];simp only[QY,II.2.1, *]
 .have:=J.fr w (c.E.lv E);exact⟨(this.1 ⟨c.fu w E,λf k=>c.fx f k w E⟩).t (c.E.M E),P⟩
 .unfold Mv;rw[<-S];refine j0 ?_ (jZ _) ((xh.map _).trans (Yn _).symm);rw[List.pairwise_map,List.pairwise_iff_getElem];intro b R v W xc;rw[AeI]at v W;have:=xj b R Om xc (by grind);rw[IK,AfE,getElem!_pos j b v,getElem!_pos j R W]at this;have xo:=LU.Ma j[b].2 j[R].2;grind
end Go.Proofs.YtbmnfifnenajjaaGreat
namespace Go.Proofs.YtbmnfifnenajjaaGreat
open Go.Fg
def FF(b:C Ab)(a:Ai):C N:=(F4 b (a.at 0)).Bk.m (Bs (a.at 0))
def DA(b:C Ab)(a:Ai):C1:=⟨(GC a.Am (FF b a)).CQ,(GC a.Am (FF b a)).I,a.AA,(a.Ac.l:K),(a.Am.l:K),a.round,Mv b a⟩
def Ei(a:C1)(u:F):C F:=[Z N.c a.CQ,Z Fh a.I,.n a.AA,.n a.Kq,.n a.KL,.n a.OJ,u]
structure WR(h:G)(u:F)(t:C WE):Prop where
 Cs:Aw h u CG 2 t
 ro:∀a∈t,Ro h a.1 Bf.c 2 a.2.B4
theorem WR.fs{h:G}{u:F}{t:C WE}(a:WR h u t):Fs (λ_=>True) 4 h u (YtbmnfifnenajjaaGreat.Z Bt.c (t.m (·.2))):=by
 refine Fs.Rt (c:=3) (d:=CG) (e:=Bt.c) (λ_ _=>Aeb) (by omega) (λ_=>B) (λ_=>B) a.Cs ?_
 have e:=a.ro
 clear a
 induction t with
 |nil=>exact .nil
 |cons b j i=>refine .cons ?_ P;have:=(e b P).fs (h:=λ_=>True) (λ_ _=>Aeb) (λ_=>B) (λ_=>B);exact BS.cons (this.up (by omega)) (BS.cons ((Fs.im (c:=h) (a:=.n b.2.Ax) B).up (by omega)) (BS.nil 3 h))
theorem U7{h:G}{c:T}{b a:D}{d:F}(e:A9 a h [.p c b]=A d):Bv (.ld a) [.p c b] h d=L:=by show KI (A9 a h [.p c b]) d=L;rw[e];exact L0 _
abbrev o7:C F:=[.sn,.sn,.n 0,.n 0,.n 0,.n 0,.sn]
theorem f_{b:CI}(Y:BD b.l){h:G}{a:Ai}{x:T->Prop}(W:DC b h a x)(xa:CF b.l a)(xv:Ft a.Am)(xG:1<=a.Ac.l)(xP:∀g∈FF b.l a,Gt g a.Am.l=L):∃u E t,W9 (pos 44) [.p b.x 0] h=A (.AB [.S (Ei (DA b.l a) u),.n 0],E)/\WR E u t/\t.m (·.2)=Mv b.l a/\Bo x h E/\∀c,x c->Lv E c:=by
 let⟨w,I⟩:=Bb (b:=a.Ac) (a:=0) xG
 let⟨xh,p,v⟩:=xa.BC 0 w I
 have U:=Y.Bc xh p v.hb;have ye:=U.Bk;have xL:∀c,x c->Lv h c:=λc s=>W.C4 s;obtain⟨yl,ym,g,xw,rfl,yc⟩:=W;let⟨f,m,xN,xJ,xr,yb,yg,yj⟩:=box h (.I 7 o7)
 have x9:∀(X:F->G->R),bl (.p h.next 0) (h.V (.I 7 o7)) X=X (.p f 0) m:=Dy h _ xN xJ;have o:=xw.ext xr;have x2:m.Ap b.x 2=A g.cv:=Ay o.M 2;let⟨xc,xg,xo⟩:=o.Lf I
 have xg:AR 1 [g.cv,.n 0]=A (.p xc 0):=by grind
 have xo:m.Ap xc 0=A (.p (g.pc 0) 0):=by grind
 have x3:m.AL b.x 3 1=A [g.mv]:=by rw[D1 o.M,Af (by omega),Ad (by omega)];rfl
 have x1:m.Ap b.x 0=A (Z Ab.c b.l):=Ay o.M 0;have V:=o.BC 0 w I;have xz:m.Ap (g.pc 0) 0=A (.n xh):=by rw[Ay V.M];show A (F.n w.Bc)=_;rw[v.ha]
 have xC:Bl 0 [.p b.x 3]=A (.p b.x 3):=by rw[EG]
 have xD:Bl 4 [.pi (Ab.c p)]=A (.pi ((Ab.c p).d 4)):=B;have xT:AM m [.pi ((Ab.c p).d 4)]=A (Z AF.c p.Bk):=B;have xe:=v.CQ U.ex;have xB:FF b.l a=p.Bk.m (Bs w):=by unfold FF;rw[DK I,v.Ca]
 rw[<-xB]at xe;let⟨u,xH,xQ,xY,xt,xE⟩:=gk V p.Bk xe (by omega)
 have xb:=o.ext xt;have xV:Aj (Bv (.ld 1) [.p b.x 3] xH (.S [g.mv])) L Aa=L:=by rw[U7];rfl;rw[F5,D1 xb.M,Af (by omega),Ad (by omega)];rfl
 have xM:(FF b.l a).l<=100:=by grind
 let⟨M,xR,x4⟩:=qR xv xb.Am xY xM xP
 have xs:AH m M:=λq N=>by have:=x4 q P (xE q N);grind
 have xx:=o.ext xs;let⟨xm,r,xO,xK,xu,xd,xU,yk⟩:=box M (.I 2 (Ci.c (GC a.Am (FF b.l a))))
 let⟨ya,x0⟩:=EL M (b:=2) [.sn,.sn] (c:=Ci.c (GC a.Am (FF b.l a))) xO xK B B
 have xZ:r.AL xm 0 2=A (Ci.c (GC a.Am (FF b.l a))):=BB xd;have k:=xx.ext xu;have x8:r.Ap b.x 5=A (.n a.AA):=Ay k.M 5;have x5:r.Ap b.x 2=A g.cv:=Ay k.M 2;have x6:r.Ap b.x 3=A g.mv:=Ay k.M 3;have x7:r.Ap b.x 4=A (.n a.round):=Ay k.M 4;have xj:=Cp k.Ac;rw[Ad0]at xj;have xk:=Cp k.Am.o;rw[Ad0]at xk;let⟨j,d,t,xS,e,xX⟩:=qS Y k xa
 have y:=k.ext e.E;have xW:Aj (Bv .Cq [.p b.x 4] d (.n a.round)) (Aj (Bv .Cq [.p b.x 3] d g.mv) (Aj (Bv .Cq [.p b.x 2] d g.cv) (Aj (Bv .Cq [.p b.x 5] d (.n a.AA)) (Aj (Bv (.ld 2) [.p xm 0] d (.S (Ci.c (GC a.Am (FF b.l a))))) L Aa) Aa) Aa) Aa) Aa=L:=by rw[GL (Ay y.M 4),GL (Ay y.M 3),GL (Ay y.M 2),GL (Ay y.M 5),Mo ((e.E.M xU).t xd)];rfl
 have xA:Cb o7 [(0,2),(2,1),(3,1),(4,1),(5,1),(6,1)] [.S (Ci.c (GC a.Am (FF b.l a))),.n a.AA,.n a.Ac.l,.n a.Am.l,.n a.round,j]=A (.S (Ei (DA b.l a) j)):=by rcases e.Cs with⟨rfl,_⟩|⟨_,_,rfl,_⟩<;>rfl
 have yf:Lv d f:=e.E.lv P;have xF:d.M f=A (.I 7 o7):=(e.E.M P).t P;have xy:BU (Ei (DA b.l a) j)=L:=by rcases e.Cs with⟨rfl,_⟩|⟨_,_,rfl,_⟩<;>rfl
 have xp:=Gb xF (a:=Ei (DA b.l a) j) B xy;have J:∀q,q≠f->(d.set f (.I 7 (Ei (DA b.l a) j))).M q=d.M q:=λq N=>by rw[AN,Ad N]
 have xn:(d.set f (.I 7 (Ei (DA b.l a) j))).AL f 0 7=A (Ei (DA b.l a) j):=BB (by rw[AN,Af B]);have xl:∀q,Lv (d.set f (.I 7 (Ei (DA b.l a) j))) q=Lv d q:=by grind
 generalize d.set f (.I 7 (Ei (DA b.l a) j))=xI at xp J xn xl;have xi:Lv r f:=by grind
 refine⟨j,xI,t,AZ B B ?_,⟨e.Cs.Ar λc s S=>⟨J c (λa=>S (by rw[a];exact e.fu f xi)),by grind⟩,λxq xf=>(e.ro xq xf).Ar λc yi w s S yd=>⟨by rw[J c (λa=>S (by rw[a];exact e.fx xq xf f xi))];grind,by grind⟩⟩,xX,λc s=> ?_,λc s=>by rw[xl];exact e.E.lv P⟩;.rw[s0];simp only[↓x9,↓ya,↓H xD,↓H xC,↓H xT,↓Q,↓H x2,↓H xg,↓H xo,↓H x3,↓H x1,↓H xz,↓H (CB v.hb),↓H xQ,↓Gn xV,↓H xR,↓H x0,↓H xZ,↓H x8,↓H x5,↓H xj,↓H x6,↓H xk,↓H x7,↓H xS,↓Gn xW,↓H xA,↓H xp,↓H xn]
 .have yh:=xL c s;rw[J c P];exact(e.E.M P).t P
def OF:C1:=⟨[],[],0,0,0,0,[]⟩
section
variable{h:G} {u:F} {t:C WE} {q:T} {z:C F}
theorem WR.ap(c:WR h u t)(f:h.M q=A (.I 7 z)):As u q:=AdS λb=>by
 rcases c.Cs with⟨a,_⟩|⟨d,e,a,_,g,_⟩;.exact b (by rw[a];exact Cg q)
 .cases AdS λi:q≠d=>b (by rw[a];exact EN P)
  grind
theorem WR.set(a:WR h u t)(f:h.M q=A (.I 7 z))(d:BV):WR (h.set q d) u t:=⟨a.Cs.Ar λg m c=>⟨by rw[AN,Ad (λb=>c (by rw[b];exact a.ap f))],by grind⟩,λi k=>(a.ro i k).Ar λg v r m c l=>by
 refine⟨?_,by grind⟩;rw[AN];split
 .rename_i b;rw[b,f]at l;rcases a.ro i k with⟨e,_⟩|⟨d,p,e,j,_⟩;.exact BF (by rw[e];exact Cg g) c
  .rw[<-AdS λw:g≠d=>c (by rw[e];exact EN P),b,f]at j;have s:7=i.2.B4.l*2:=(AdW (λo=>match o with|some (n,_)=>n|_=>0) j);omega
 omega⟩
theorem WR.dn(a:WR h u t)(b:C1):BU (Ei b u)=L:=by rcases a.Cs with⟨rfl,_⟩|⟨_,_,rfl,_⟩<;>rfl
theorem WR.fa(f:WR h u t){d:C Ab}{c:Ai}(i:t.m (·.2)=Mv d c):Fs (λ_=>True) 5 h (.S (Ei (DA d c) u)) (.S (C1.c (DA d c))):=by have e:=f.fs;rw[i]at e;have a:∀b:F,Im b=L->Fs (λ_=>True) 4 h b b:=λb g=>(Fs.im g).up (by omega);exact Fs.S (BS.cons (a _ B) (BS.cons (a _ B) (BS.cons (a _ B) (BS.cons (a _ B) (BS.cons (a _ B) (BS.cons (a _ B) (BS.cons e (BS.nil 4 _))))))))
theorem W7{b a:C F}(d:BS (λ_=>True) 5 h b a):∃f,Dp h (.AB b)=A (.AB a,f):=by
 let⟨c,g,_⟩:=d 34 h (FC.refl _)
 refine⟨c,?_⟩;show(match CT _ h b with|some (a,e)=>A (F.AB a,e)|none=>O)=_;grind
theorem jt(f:WR h u t)(g:h.M q=A (.I 7 z)){b:C Ab}{a:Ai}(j:t.m (·.2)=Mv b a):∃d e,AX 7 h [.p q 0,.S (Ei (DA b a) u)]=A (AC,d)/\d.AL q 0 7=A (Ei (DA b a) u)/\Dp d (.AB [.S (Ei (DA b a) u),.n 0])=A (.AB [.S (C1.c (DA b a)),.n 0],e):=by
 let⟨e,i⟩:=W7 (BS.cons ((f.set g (.I 7 (Ei (DA b a) u))).fa j) (BS.cons ((Fs.im (a:=.n 0) B).up (by omega)) (BS.nil 5 _)))
 exact⟨_,e,Gb g B (f.dn _),BB (by rw[AN,Af B]),i⟩
end
def B7(b:C Ab)(a:Ai×K):C1×K:=if a.2≠0 then(OF,a.2)else(DA b a.1,0)
theorem g9{b:C Ab}(X:Cl b){f m xb:D}(Y:f=400)(d:AQ)(T:d.l.l<=2000000)(U:D3 d.l<=100000000){j:Ai->Prop}(s:∀e:CI,e.l=b->Li e->P5 e f j)(p:∀a,JA b f m d=A a->a.2=0->j a.1){a:Ai×K}(xa:Hr b f m xb d=A a)(N:a.2=0->CF b a.1/\BD b/\Ft a.1.Am/\1<=a.1.Ac.l/\∀xj∈FF b a.1,Gt xj a.1.Am.l=L):AY 12 [Z Ab.c b,.S (AQ.c d)] (.AB [.S (C1.c (B7 b a).1),.n (B7 b a).2]):=by
 let⟨xz,S,xt,xr,xk,Q,xd,xx⟩:=box G.Aq (.I 2 (AQ.c d))
 let⟨c,V,xu,xs,n,R,xw,xy⟩:=box S (.I 7 o7)
 have xA:=(n.M xd).t Q;let⟨xB,i,xc,v,xl,r⟩:=f9 X Y d T U s p xa V (g:=λxf=>xf=c) P
 have k:=(v c B).t R;by_cases g:a.2=0
 .obtain⟨e,W,rfl,xm,o⟩:=r g;subst W;let⟨E,H,I,J,M⟩:=N g
  let⟨u,xo,t,xv,x,xe,w,_⟩:=f_ H o E I J M
  let⟨xp,xq,xi,xg,y⟩:=jt x ((w c B).t k) xe
  unfold B7;rw[Ad (by grind)];refine EV B B ?_ y;rw[g]at xc;rw[aJ.1];simp only[QY,aJ.2, *]
 .have xh:B7 b a=(OF,a.2):=by unfold B7;grind
  rw[xh];have xn:Cb o7 [] []=A (.S o7):=B;have xi:=Gb k (a:=o7) B B;have xg:(i.set c (.I 7 o7)).AL c 0 7=A o7:=BB (by rw[AN,Af B]);refine EV B B (e:=.AB [.S o7,.n a.2]) (c:=i.set c (.I 7 o7)) ?_ (h:=i.set c (.I 7 o7)) B;rw[aJ.1];simp only[QY, *]
def E3{a:Type}(e:C (C a))(c d:D)(b:a):a:=(((e[c]?).g [])[d]?).g b
def GQ(a:AK)(b:D):N:=(a.An[b]?).g AO
def EI(a:AK)(b c:D):N:=E3 a.AG b c AO
def D9(a:AK)(b:D):K:=(a.AS[b]?).g 0
theorem V4(a:AK)(b c:D):Ek a b c=E3 a.A4 b c EQ:=rfl
def cQ(d:AK)(a:AF):Bs d a=if 0<=a.AD then(if a.Ax<0 then GQ d a.AD.n else EI d a.Ax.n a.AD.n)else AO:=by
 unfold Bs H0;by_cases b:0<=a.AD
 .by_cases c:a.Ax<0;.rw[Af c,Af b,Af b,Af c];rfl
  .rw[Ad c,Af b,Af b,Ad c];unfold EI E3;grind
 grind
variable{b d e:D}
def Kn{g:Type}{f:C (C g)}{a:D}{h c:g}(i:¬(a=d/\b=e)):E3 (CP f d e h) a b c=E3 f a b c:=by unfold E3 CP;grind
def G6{e:Type}(d:C (C e))(b c:D):Prop:=∃a,d[b]? =A a/\c<a.l
def T_{e:Type}{d:C (C e)}{a:D}{c f:e}(g:G6 d a b):E3 (CP d a b c) a b f=c:=by
 let⟨h,j,i⟩:=g
 unfold E3;have:(CP d a b c)[a]? =A (h.set b c):=by unfold CP;grind
 grind
def lx{g:Type}{e:C (C g)}{a:D}{j d:g}(h:¬G6 e b a):E3 (CP e b a j) b a d=d:=by
 unfold E3 CP;split
 .rename_i f i;have k:f.l<=a:=by
   rcases Nat.lt_or_ge a _ with c|c;.exact BF ⟨f,i,c⟩ h
   omega
  grind
 grind
def YN{j:Type}(d:C (C j))(e f a b:D)(g c:j):E3 (CP d e f g) a b c=g\/E3 (CP d e f g) a b c=E3 d a b c\/E3 (CP d e f g) a b c=c:=by
 by_cases h:a=e/\b=f
 .obtain⟨rfl,rfl⟩:=h;by_cases i:G6 d a b;.exact .i (T_ i)
  .exact .j (.j (lx i))
 .exact .j (.i (Kn h))
def B5(a:D)(b:N):Prop:=Gt b (a:K)=L
theorem It(a:D):B5 a AO:=rfl
def B5.up{a:D}{c:N}(d:B5 b c)(e:b<=a):B5 a c:=by unfold B5 Gt BK at*;grind
structure IW(b d:AK):Prop where
 Vx:∀a,(GQ b a).Ak≠0->GQ d a=GQ b a
 AD:∀c a,(EI b c a).Ak≠0->EI d c a=EI b c a
def IW.refl(a:AK):IW a a:=⟨P,P⟩
def IW.AI{e f g:AK}(c:IW e f)(h:IW f g):IW e g:=
 ⟨λa b=>(h.Vx a (by rw[c.Vx a b];grind)).t (c.Vx a b),λa d b=>(h.AD a d (by rw[c.AD a d b];grind)).t (c.AD a d b)⟩
def IW.Eo{d e:AK}(f:IW d e){b:AF}(a:(Bs d b).Ak≠0):Bs e b=Bs d b:=by
 rw[cQ]at a⊢;rw[cQ];by_cases g:0<=b.AD
 .rw[Af g]at a⊢;rw[Af g];by_cases c:b.Ax<0;.rw[Af c]at a⊢;rw[Af c];exact f.Vx _ a
  .rw[Ad c]at a⊢;rw[Ad c];exact f.AD _ _ a
 grind
def Dm(a:C AE):C K:=a.f λc=>c.AV.m λb=>b.Ct
def IM(c:C Ab)(a:AK)(b:D):K:=(((F4 c a).Av[b]?).g bv).op
def CW(b:Ai)(a d c:D):Prop:=a<b.Ac.l/\(b.at a).AP=(d:K)/\(b.at a).Ax=(c:K)
structure WF(g:C Ab)(a:Ai):Prop where
 sh:CF g a
 Fj:Ft a.Am
 AA:0<=a.AA/\a.AA<=6000
 vp:∀b d,B5 a.Am.l (GQ (a.at b) d)
 vo:∀b c d,B5 a.Am.l (EI (a.at b) c d)
 p0:∀b,b<a.Ac.l->(GQ (a.at b) 0).Ak≠0
 f0:∀b c,0<=D9 (a.at b) c
 Fk:∀b c,D9 (a.at b) c=0->∀d,(EI (a.at b) c d).Ak=0/\Ek (a.at b) c d=EQ
 Fo:∀e f c,CW a e f c->0<D9 (a.at f) c/\∀d,((EI (a.at f) c d).Ak=0↔(Ek (a.at f) c d).is=Aa)
 B1:∀b c d,Ek (a.at b) c d=EQ\/(Ek (a.at b) c d).is=L/\∃e,CW a e b c/\(a.at e).Az=(Ek (a.at b) c d).Az
 KN:∀e h f c,CW a e f c->CW a h f c->(a.at h).Az=(a.at e).Az->h=e
 L4:∀b,b<a.Ac.l->(a.at b).next≠-1->(Et g (a.at b)).Ak≠0/\(Et g (a.at b)).Ak≠5
 AV:∀i∈Dm a.Am,∃b c:D,b<a.Ac.l/\c<1000/\i=((1000*b+c:D):K)/\IM g (a.at b) c=12/\0<D9 (a.at b) c/\(EI (a.at b) c 0).Ak=0
 Jx:(Dm a.Am).Nodup
def YA(a:Ai):Prop:=∀b e d,CW a b e d->0<(a.at b).Az->∃c,c<a.Ac.l/\(a.at c).next=(b:K)
variable{a:Ai}
def E4{d:AK}(e:b<a.Ac.l)(c:D):(a.AJ b d).at c=if c=b then d else a.at c:=by unfold Ai.at Ai.AJ;grind
def HE{c:Ai}{a:D}{b:AK}(d:a<c.Ac.l):(c.AJ a b).at a=b:=by rw[E4 d,Af B]
variable{c:D}
def R7{d:AK}(e:b<a.Ac.l)(f:c≠b):(a.AJ b d).at c=a.at c:=by rw[E4 e,Ad f]
def Ej(a:Ai)(c:D)(b:AK):(a.AJ c b).Ac.l=a.Ac.l:=Aed
def Di(c:b<a.Ac.l):a.Ac[b]? =A (a.at b):=by
 let⟨e,d⟩:=Bb c
 rw[DK d];grind
def Y2{c:C _}{a b:AK}(d:DQ a b):F4 c b=F4 c a:=by unfold F4;rw[d.Bc]
def AaW{c:C _}{a b:AK}(f:DQ a b)(e:IW a b)(d:(Et c a).Ak≠0):Et c b=Et c a:=by unfold Et at*;rw[Y2 f];exact e.Eo d
structure DP(d:Ai)(e:D)(b:AK):Prop where
 hi:e<d.Ac.l
 En:DQ (d.at e) b
 next:b.next=(d.at e).next
 Ar:IW (d.at e) b
 vp:∀c,B5 d.Am.l (GQ b c)
 vo:∀a c,B5 d.Am.l (EI b a c)
 f0:∀a,0<=D9 b a
 fm:∀a,0<D9 (d.at e) a->0<D9 b a
 Fk:∀a,D9 b a=0->∀c,(EI b a c).Ak=0/\Ek b a c=EQ
 Fo:∀f a,CW d f e a->∀c,((EI b a c).Ak=0↔(Ek b a c).is=Aa)
 B1:∀a c,Ek b a c=EQ\/(Ek b a c).is=L/\∃f,CW d f e a/\(d.at f).Az=(Ek b a c).Az
 AV:∀a:D,a<1000->((1000*e+a:D):K)∈Dm d.Am->(EI b a 0).Ak=0
variable{f g:D}
def DP.Hf{c:Ai}{e:AK}(a:DP c d e):CW (c.AJ d e) b g f↔CW c b g f:=by
 unfold CW;rw[Ej,E4 a.hi];by_cases h:b=d;.subst h;rw[Af B,a.En.AP,a.En.Ax]
 grind
def DP.Az{c:AK}(b:DP a e c)(d:D):((a.AJ e c).at d).Az=(a.at d).Az:=by
 rw[E4 b.hi];split;.rename_i f;subst f;exact b.En.Az
 omega
def DP.A_{c:AK}(b:DP a e c)(d:D):((a.AJ e c).at d).next=(a.at d).next:=by
 rw[E4 b.hi];split;.rename_i f;subst f;exact b.next
 omega
def DP.vm{b:Ai}{c:AK}(a:DP b d c)(f:YA b):YA (b.AJ d c):=λh k i j e=>by
 rw[a.Az]at e;let⟨g,l,m⟩:=f h k i (a.Hf.1 j) e
 exact⟨g,by rw[Ej];grind,by rw[a.A_];grind⟩
variable{i:D}
def WF.AJ{u:C _}{g:Ai}(d:WF u g){m:AK}(a:DP g i m):WF u (g.AJ i m)where
 sh:=d.sh.AJ (Di a.hi) a.En a.next
 Fj:=d.Fj
 AA:=d.AA
 vp:=λc b=>by
  rw[E4 a.hi];split;.exact a.vp b
  .exact d.vp c b
 vo:=λc b f=>by
  rw[E4 a.hi];split;.exact a.vo b f
  .exact d.vo c b f
 p0:=λc l=>by
  rw[Ej]at l;rw[E4 a.hi];split;.rw[a.Ar.Vx 0 (d.p0 i Om)];exact d.p0 i Om
  .exact d.p0 c l
 f0:=λc b=>by
  rw[E4 a.hi];split;.exact a.f0 b
  .exact d.f0 c b
 Fk:=λc b=>by
  rw[E4 a.hi];split;.exact a.Fk b
  .exact d.Fk c b
 Fo:=λe p b c=>by
  have t:=a.Hf.1 c;have:=d.Fo e p b t;rw[E4 a.hi];split;.rename_i h;subst h;exact⟨a.fm b Om,a.Fo e b t⟩
  omega
 B1:=λo b c=>by
  have x:∀f:BA,(f=EQ\/f.is=L/\∃e,CW g e o b/\(g.at e).Az=f.Az)->(f=EQ\/f.is=L/\∃e,CW (g.AJ i m) e o b/\((g.AJ i m).at e).Az=f.Az):=by
   rintro f (q|⟨q,e,n,j⟩)
   .grind
   .exact .j ⟨q,e,a.Hf.2 n,by rw[a.Az];grind⟩
  refine x _ ?_;rw[E4 a.hi];split;.rename_i h;subst h;exact a.B1 b c
  .exact d.B1 o b c
 KN:=λe v p b n j k=>by rw[a.Az,a.Az]at k;exact d.KN e v p b (a.Hf.1 n) (a.Hf.1 j) k
 L4:=λc l r=>by
  rw[Ej]at l;rw[a.A_]at r;have:=d.L4 c l r;rw[E4 a.hi];split;.rename_i h;subst h;rw[AaW a.En a.Ar Om];grind
  omega
 AV:=λy s=>by
  let⟨c,b,n,j,k,z,w,E⟩:=d.AV y s
  refine⟨c,b,by rw[Ej];grind,j,k,?_⟩;rw[E4 a.hi];split;.rename_i h;subst h;refine⟨?_,a.fm b w,a.AV b j (k▸s)⟩;unfold IM at*;rw[Y2 a.En];grind
  omega
 Jx:=d.Jx
def ch{d:Type}(c b:D)(a:d):((BG c a)[b]?).g a=a:=by grind
def T9{h b:Type}(f:C b)(c:b->D)(a:h)(d e:D):E3 (f.m λg=>BG (c g) a) d e a=a:=by unfold E3;grind
def FQ{c:AK}{e:C AE}{f d:K}(b:D):(Ai.mk (a.Ac++[c]) e f d).at b=if b=a.Ac.l then c else a.at b:=by
 unfold Ai.at;by_cases g:b=a.Ac.l;.grind
 grind
def dp(c:a.Ac.l<=b):a.at b=Zi:=by unfold Ai.at;grind
structure c6(d:D)(a:AK)(e b:D)(f:K):Prop where
 AP:a.AP=(e:K)
 Ax:a.Ax=(b:K)
 Az:a.Az=f
 next:a.next= -1
 vp:∀c,B5 d (GQ a c)
 p0:(GQ a 0).Ak≠0
 AS:∀b,D9 a b=0
 AD:∀b c,EI a b c=AO
 cT:∀b c,Ek a b c=EQ
def ii{n:C Ab}{a:Ab}{j h f:K}{i:K}{c:N}(k:h=(g:K))(l:f=(b:K))(p:B5 d c)(m:c.Ak≠0)(o:1<=a.An):c6 d {Dl n a j h f i with An:=(BG a.An.n AO).set 0 c} g b i where
 AP:=k
 Ax:=l
 Az:=B
 next:=B
 vp:=λe=>by
  show B5 d ((((BG a.An.n AO).set 0 c)[e]?).g AO);by_cases q:e=0;.grind
  .rw[AeJ Om,ch];exact It d
 p0:=by show((((BG a.An.n AO).set 0 c)[0]?).g AO).Ak≠0;rw[Aex (by rw[Afr];omega)];exact m
 AS:=λb=>ch _ _ _
 AD:=λb e=>T9 _ _ _ _ _
 cT:=λb e=>T9 _ _ _ _ _
variable{n:D}
def WF.Km{t:C Ab}(d:WF t a){o:AK}{w:K}(x:CF t ⟨a.Ac++[o],a.Am,a.round,a.AA⟩)(e:c6 a.Am.l o i n w)(J:i<a.Ac.l)(I:0<D9 (a.at i) n/\∀c,((EI (a.at i) n c).Ak=0↔(Ek (a.at i) n c).is=Aa))(G:∀v,CW a v i n->(a.at v).Az≠w):WF t ⟨a.Ac++[o],a.Am,a.round,a.AA⟩:=by
 have u:(Ai.mk (a.Ac++[o]) a.Am a.round a.AA).Ac.l=a.Ac.l+1:=AdY;have s:∀{b f g:D},CW ⟨a.Ac++[o],a.Am,a.round,a.AA⟩ b f g↔(b=a.Ac.l/\f=i/\g=n)\/CW a b f g:=by
  intro b f g;unfold CW;rw[u,FQ];by_cases j:b=a.Ac.l;.subst j;rw[Af B,e.AP,e.Ax];omega
  grind
 have M:∀{b f g:D},CW a b f g->b≠a.Ac.l:=λc=>by have:=c.1;omega
 exact{
  sh:=x
  Fj:=d.Fj
  AA:=d.AA
  vp:=λc b=>by
   rw[FQ];split;.exact e.vp b
   .exact d.vp c b
  vo:=λc b k=>by
   rw[FQ];split;.rw[e.AD];exact It _
   .exact d.vo c b k
  p0:=λc l=>by
   rw[u]at l;rw[FQ];split;.exact e.p0
   .exact d.p0 c (by omega)
  f0:=λc b=>by
   rw[FQ];split;.rw[e.AS];omega
   .exact d.f0 c b
  Fk:=λc b=>by
   rw[FQ];split;.intro _ k;exact⟨by rw[e.AD];rfl,e.cT b k⟩
   .exact d.Fk c b
  Fo:=λb f g c=>by
   rcases s.1 c with⟨rfl,rfl,rfl⟩|c;.rw[FQ,Ad (by omega)];omega
   .have:=d.Fo b f g c;rw[FQ,Ad (λj=>by subst j;rw[dp Om]at this;exact BF this.1 (by show¬(0:K)<0;omega):f≠a.Ac.l)];omega
  B1:=λr b c=>by
   rw[FQ];split;.exact .i (e.cT b c)
   .rcases d.B1 r b c with l|⟨l,k,p,m⟩;.grind
    .exact .j ⟨l,k,P,by rw[FQ,Ad P];omega⟩
  KN:=λb k f g p m h=>by
   rw[FQ,FQ]at h;rcases s.1 p with⟨rfl,rfl,rfl⟩|p<;>rcases s.1 m with⟨rfl,z,E⟩|m;.rfl
   .rw[Ad P,Af B,e.Az]at h;grind
   .subst z;subst E;rw[Af B,Ad P,e.Az]at h;grind
   .rw[Ad P,Ad P]at h;exact d.KN b k f g p m h
  L4:=λc l q=>by
   rw[u]at l;rw[FQ]at q⊢;split;.rename_i j;rw[Af j]at q;exact BF e.next q
   .rename_i j;rw[Ad j]at q;exact d.L4 c (by omega) q
  AV:=λF y=>by obtain⟨r,b,p,m,h,H⟩:=d.AV F y;exact⟨r,b,by omega,m,h,by rw[FQ,Ad (by omega)];omega⟩
  Jx:=d.Jx}
def WF.RH{l:C Ab}{e:Ai}(h:WF l e)(s:g<e.Ac.l){n:K}(v:CF l (e.AJ g {e.at g with next:=n}))(E:(Et l (e.at g)).Ak≠0/\(Et l (e.at g)).Ak≠5):WF l (e.AJ g {e.at g with next:=n}):=by
 have d:∀(b:D){u:Type}(m:AK->u),(m {e.at g with next:=n}=m (e.at g))->m ((e.AJ g {e.at g with next:=n}).at b)=m (e.at b):=λb u m i=>by rw[E4 s];grind
 have F:∀{c j k:D},CW (e.AJ g {e.at g with next:=n}) c j k↔CW e c j k:=by intro c j k;unfold CW;rw[Ej,d c (λa=>a.AP) B,d c (λa=>a.Ax) B]
 exact{
  sh:=v
  Fj:=h.Fj
  AA:=h.AA
  vp:=λb c=>by rw[d b (λa=>GQ a c) B];exact h.vp b c
  vo:=λb c f=>by rw[d b (λa=>EI a c f) B];exact h.vo b c f
  p0:=λb i=>by rw[Ej]at i;rw[d b (λa=>GQ a 0) B];exact h.p0 b i
  f0:=λb c=>by rw[d b (λa=>D9 a c) B];exact h.f0 b c
  Fk:=λb c i f=>by rw[d b (λa=>D9 a c) B]at i;rw[d b (λa=>EI a c f) B,d b (λa=>Ek a c f) B];exact h.Fk b c i f
  Fo:=λc j k b=>by have:=h.Fo c j k P;rw[d j (λa=>D9 a k) B];exact⟨Om,λf=>by rw[d j (λa=>EI a k f) B,d j (λa=>Ek a k f) B];grind⟩
  B1:=λb c f=>by
   rw[d b (λa=>Ek a c f) B];rcases h.B1 b c f with i|⟨i,q,r,p⟩;.grind
   .exact .j ⟨i,q,P,by rw[d q (λa=>a.Az) B];omega⟩
  KN:=λc f j k r p o=>by rw[d c (λa=>a.Az) B,d f (λa=>a.Az) B]at o;exact h.KN c f j k P P o
  L4:=λb i t=>by
   rw[Ej]at i;rw[d b (λa=>Et l a) B];by_cases x:b=g;.grind
   .rw[R7 s x]at t;exact h.L4 b i t
  AV:=λy w=>by obtain⟨b,c,r,p,o,z⟩:=h.AV y w;exact⟨b,c,by rw[Ej];omega,p,o,by rw[d b (λa=>IM l a c) B,d b (λa=>D9 a c) B,d b (λa=>EI a c 0) B];omega⟩
  Jx:=h.Jx}
def DP.refl{j:C Ab}{c:Ai}(b:WF j c){a:D}(g:a<c.Ac.l):DP c a (c.at a)where
 hi:=g
 En:=DQ.refl _
 next:=B
 Ar:=IW.refl _
 vp:=b.vp a
 vo:=b.vo a
 f0:=b.f0 a
 fm:=λ_ f=>f
 Fk:=b.Fk a
 Fo:=λe d i=>(b.Fo e a d i).2
 B1:=b.B1 a
 AV:=λd s h=>by obtain⟨k,l,m,n,o,p,q,r⟩:=b.AV _ h;grind
def DP.ri{g:Ai}{a:AK}(b:DP g i a){e:N}(o:B5 g.Am.l e)(d:D):DP g i (FG a d e).1:=by
 have k:=gw a d e;unfold FG at*;split;.omega
 .rename_i h;rw[Ad h]at k;have m:(GQ a d).Ak=0:=AdS λf=>h (.j f);exact{
   hi:=b.hi
   En:=b.En.AI P
   next:=b.next
   Ar:=b.Ar.AI ⟨λc p=>by show(((a.An.set d e)[c]?).g AO)=_;rw[AeJ (λl=>(P:c≠d) l.s)];rfl,λ_ _ _=>B⟩
   vp:=λc=>by
    have j:GQ {a with An:=a.An.set d e} c=e\/GQ {a with An:=a.An.set d e} c=GQ a c:=by
     show(((a.An.set d e)[c]?).g AO)=_\/(((a.An.set d e)[c]?).g AO)=_;by_cases f:c=d
     .subst f;by_cases n:c<a.An.l;.grind
      .right;rw[Af4 (by grind)];unfold GQ;grind
     .exact .j (by rw[AeJ Om];rfl)
    rcases j with f|f;.grind
    .rw[f];exact b.vp c
   vo:=b.vo
   f0:=b.f0
   fm:=b.fm
   Fk:=b.Fk
   Fo:=b.Fo
   B1:=b.B1
   AV:=b.AV}
def DP.Dc{b:Ai}{g:D}{d:AK}(c:DP b g d){h:AF->N}{f:C AF}(i:∀e∈f,B5 b.Am.l (h e)):∀a,DP b g (Dc h f d a).1
 |0=>c
 |a+1=>by
  have j:=DP.Dc c i a;unfold YtbmnfifnenajjaaGreat.Dc;split;.rename_i e k;exact j.ri P a
  omega
structure RS(a:Ai)(c b:D)(e:BA):Prop where
 is:e.is=L
 Fo:∃d,CW a d c b/\(a.at d).Az=e.Az
 AS:0<D9 (a.at c) b
 AV:((1000*c+b:D):K)∉Dm a.Am
variable{j:N}
def DP.M8{l:Ai}{c:AK}{i:BA}(g:DP l n c)(m:RS l n b i)(G:B5 l.Am.l j)(E:j.Ak≠0)(t:G6 c.AG b d)(p:G6 c.A4 b d):DP l n (CZ c b d j i).1:=by
 have s:=YS c b d j i;unfold CZ at*;split;.omega
 .split;.omega
  .rename_i w x;rw[Ad w,Ad x]at s;obtain⟨k,r,y⟩:=m.Fo;have F:(EI c b d).Ak=0:=(g.Fo k b r d).2 P;have z:0<D9 c b:=g.fm b m.AS;exact{
    hi:=g.hi
    En:=g.En.AI s.1
    next:=g.next
    Ar:=g.Ar.AI ⟨λ_ _=>B,λh a H=>Kn P⟩
    vp:=g.vp
    vo:=λh a=>by
     show B5 _ (E3 (CP c.AG b d j) h a AO);rcases YN c.AG b d h a j AO with e|e|e;.grind
     .rw[e];exact g.vo h a
     .rw[e];exact It _
    f0:=g.f0
    fm:=g.fm
    Fk:=λh o a=>by
     have e:¬(h=b/\a=d):=λe=>by obtain⟨rfl,rfl⟩:=e;have o:D9 c h=0:=o;omega
     have:=g.Fk h o a;refine⟨?_,?_⟩;.show(E3 (CP c.AG b d j) h a AO).Ak=0;rw[Kn e];exact this.1
     .show E3 (CP c.A4 b d i) h a EQ=EQ;rw[Kn e];exact this.2
    Fo:=λh a v f=>by
     show((E3 (CP c.AG b d j) a f AO).Ak=0↔(E3 (CP c.A4 b d i) a f EQ).is=Aa);by_cases e:a=b/\f=d;.obtain⟨rfl,rfl⟩:=e;rw[T_ t,T_ p];exact⟨Om,λe=>by rw[m.is]at e;grind⟩
     .rw[Kn e,Kn e];exact g.Fo h a v f
    B1:=λa f=>by
     show E3 (CP c.A4 b d i) a f EQ=EQ\/_;by_cases e:a=b/\f=d;.obtain⟨rfl,rfl⟩:=e;right;show(E3 (CP c.A4 a f i) a f EQ).is=L/\∃k,CW l k n a/\(l.at k).Az=(E3 (CP c.A4 a f i) a f EQ).Az;rw[T_ p];exact⟨m.is,k,r,y⟩
     .show E3 (CP c.A4 b d i) a f EQ=EQ\/(E3 (CP c.A4 b d i) a f EQ).is=L/\∃k,CW l k n a/\(l.at k).Az=(E3 (CP c.A4 b d i) a f EQ).Az;rw[Kn e];exact(g.B1 a f)
    AV:=λa u q=>by show(E3 (CP c.AG b d j) a 0 AO).Ak=0;rw[Kn (λe=>by obtain⟨rfl,_⟩:=e;exact m.AV q:¬(a=b/\(0:D)=d))];exact g.AV a u q}
def Of{i:Type}{a b:C (C i)}(j:b.m List.length=a.m List.length)(g:G6 a c d):G6 b c d:=by obtain⟨m,e,k⟩:=g;obtain⟨h,f,l⟩:=Va (e:=b) (c:=a) P e;exact⟨h,f,by omega⟩
def DP.Ce{e:Ai}{h c:D}{b:AK}{g:BA}(k:DP e h b)(j:RS e h c g){i:D->N}(o:∀a,B5 e.Am.l (i a)){f:D}(m:∀a,a<f->G6 b.AG c a)(n:∀a,a<f->G6 b.A4 c a):∀d,d<=f->DP e h (Ce i c g b d).1
 |0,_=>k
 |d+1,r=>by
  have p:=DP.Ce k j o m n d (by omega);have l:=(Ub i c g b d).1;unfold YtbmnfifnenajjaaGreat.Ce;split;.omega
  .rename_i q;split;.omega
   .exact p.M8 j P Om (Of l.AG P) (Of l.A4 P)
def WF.Bs{e:C Ab}(c:WF e a)(b:D)(d:AF):B5 a.Am.l (Bs (a.at b) d):=by
 rw[cQ];split
 .split;.exact c.vp b _
  .exact c.vo b _ _
 .exact It _
structure BY(b:C Ab)(a:Ai):Prop where
 W:WF b a
 V:YA a
def BY.AJ{f:C Ab}(c:BY f a){d:AK}(b:DP a e d):BY f (a.AJ e d):=⟨c.W.AJ b,b.vm c.V⟩
def YM{c:C Ab}{b:Ai}(a:BY c b)(f:d<b.Ac.l):BY c (Cj c b d).1:=by
 unfold Cj;simp only[];split;.omega
 .exact a.AJ ((DP.refl a.W f).Dc (λe _=>a.W.Bs _ e) _)
def BY.up{i:C Ab}(j:BY i a)(h:b<a.Ac.l)(k:(a.at b).AP≠-1):∃c e f g,Gc i a b (a.at b) c e (a.at c) f g/\CW a b c e/\c<a.Ac.l:=by obtain⟨c,e,l,f,g,d⟩:=(j.W.sh.up b _ (Di h)).resolve_left k;have:=DK d.Cc;subst this;exact⟨c,e,f,g,d,⟨h,d.AP,d.Ax⟩,(AdN.1 d.Cc).1⟩
def WF.uE{c:C Ab}(e:WF c a)(m:b<1000)(n:IM c (a.at d) b≠12):((1000*d+b:D):K)∉Dm a.Am:=λf=>by obtain⟨g,h,i,j,k,l,_⟩:=e.AV _ f;grind
def Gc.IM{d:C Ab}{i:Ai}{j:D}{h:AK}{k:D}{b:AK}{g:Ab}{e:Au}(a:Gc d i j h k c b g e):IM d b c=e.op:=by obtain⟨l,f⟩:=a.GZ;unfold YtbmnfifnenajjaaGreat.IM;rw[f.Ca,a.hn];rfl
def Gc.M8{f:C Ab}(k:BD f)(h:BY f a){i:Ab}{m:Au}(d:Gc f a b (a.at b) c e (a.at c) i m)(g:CW a b c e)(n:Ah):RS a c e ⟨(a.at b).Az,n,L⟩where
 is:=B
 Fo:=⟨b,g,B⟩
 AS:=(h.W.Fo b c e g).1
 AV:=by obtain⟨l,j⟩:=d.GZ;have o:=(AdN.1 d.hn).1;have:=(k.Bc l i j.hb).Av;exact h.W.uE (by omega) (by rw[d.IM];have:=d.op;omega)
def Gc.Ga{j:C Ab}(p:BD j){s:Ai}{w y a:D}{n d:AK}{m:Ab}{h:Au}(b:Gc j s w n y a d m h){o:D}{e:Ab}(k:Dw j o e n):∃g f,d.AG[a]? =A g/\d.A4[a]? =A f/\g.l=e.Bk.l/\f.l=e.Bk.l:=by
 obtain⟨x,c⟩:=b.GZ;have M:=(AdN.1 b.hn).1;obtain⟨g,v⟩:=Bb (b:=d.AG) (a:=a) (by rw[c.AG];omega);obtain⟨f,u⟩:=Bb (b:=d.A4) (a:=a) (by rw[c.A4];omega);obtain⟨q,r,F,t,G,H,I⟩:=((p.Bc x m c.hb).Ax a h b.hn).call b.op;have z:=c.AD a h g b.hn v;have E:=c.B1 a h f b.hn u;have:r=e:=by
  have J:=b.CH;have:q=o:=by have:=k.ha;omega
  subst this;exact Aew (t.s.t k.hb)
 grind
def ZP{d:C Ab}(g:BD d){c:Ai}(a:BY d c)(i:b<c.Ac.l)(l:(c.at b).AP≠-1):BY d (EU d c b).1:=by
 obtain⟨w,t,s,v,h,e,m⟩:=a.up i l;obtain⟨u,k,f⟩:=a.W.sh.BC b _ (Di i);obtain⟨p,o,q,r,x,y⟩:=h.Ga g f;unfold EU;simp only[e.2.1,e.2.2,AdR,f.Ca];refine a.AJ ((DP.refl a.W m).Ce (h.M8 g a e Aa) (λj=> ?_) (f:=k.Bk.l) (λj n=>⟨p,q,by omega⟩) (λj n=>⟨o,r,by omega⟩) _ Om);unfold Fx;split;.exact a.W.Bs b _
 .exact It _
def Aak{e:C Ab}(f:BD e){b:Ai}(a:BY e b)(h:c<b.Ac.l)(n:(b.at c).AP≠-1)(p:B5 b.Am.l j):BY e (JI b c j).1:=by obtain⟨y,v,u,x,g,d,o⟩:=a.up h n;obtain⟨w,m,l⟩:=a.W.sh.BC c _ (Di h);obtain⟨s,r,i,t,z,E⟩:=g.Ga f l;unfold JI;simp only[d.2.1,d.2.2,AdR,i,Aeg];exact a.AJ ((DP.refl a.W o).Ce (g.M8 f a d L) (λk=>p) (f:=m.Bk.l) (λk q=>⟨s,i,by omega⟩) (λk q=>⟨r,t,by omega⟩) _ (by omega))
def uA{c:C Ab}(b:BY c a)(f:(a.at d).next.n<a.Ac.l):BY c (Gv c a d).1:=by unfold Gv;exact b.AJ ((DP.refl b.W f).Dc (λe _=>b.W.Bs _ e) _)
def BY.next{h:C Ab}(e:BY h a)(f:b<a.Ac.l)(g:(a.at b).next≠-1):∃c:D,L7 a b (a.at b) c (a.at c)/\c<a.Ac.l:=by obtain⟨c,i,d⟩:=(e.W.sh.next b _ (Di f)).resolve_left g;have:=DK d.Cc;subst this;exact⟨c,d,(AdN.1 d.Cc).1⟩
def BY.F8{n:C Ab}(h:BY n a)(k:CW a c e d)(r:(a.at c).next= -1)(s:0<=(a.at c).Az):∀b,CW a b e d->(a.at b).Az≠(a.at c).Az+1:=λb g o=>by
 obtain⟨i,j,p⟩:=h.V b e d g (by omega);obtain⟨m,f,q⟩:=h.next j (by omega);have l:m=b:=by have:=f.next;omega
 subst l;have:=h.W.KN i c e d (⟨j,f.AP.s.t g.2.1,f.Ax.s.t g.2.2⟩:CW a i e d) k (by have:=f.Az;omega);grind
def bs{g:C Ab}(E:BD g){c:Ai}(h:BY g c)(w:e<c.Ac.l)(xf:(c.at e).AP≠-1)(xc:(Et g (c.at e)).Ak≠0)(xn:(Et g (c.at e)).Ak≠5):BY g (Gu g c e).1:=by
 obtain⟨F,R,Y,xi,i,I,xg⟩:=h.up w xf;obtain⟨q,j,p⟩:=h.W.sh.BC e _ (Di w);have G:=(XN E h.W.sh (Di w) i p).2.1;unfold Gu at*;simp only[]at*;split at G
 .rename_i Q;rw[Af Q];by_cases xa:c.Ac.l=400
  .have xo:EO g c (c.at e).Bc (c.at e).AP (c.at e).Ax ((c.at e).Az+1) (Et g (c.at e))=(c,5):=by unfold EO;grind
   grind
  .have xd:EO g c (c.at e).Bc (c.at e).AP (c.at e).Ax ((c.at e).Az+1) (Et g (c.at e))=(⟨c.Ac++[{Dl g j q (c.at e).AP (c.at e).Ax ((c.at e).Az+1)with An:=(BG j.An.n AO).set 0 (Et g (c.at e))}],c.Am,c.round,c.AA⟩,0):=by
    unfold EO;rw[Ad xa,p.ha,AdR,p.hb]
   rw[xd]at G⊢
   have Z:¬((0:K)≠0):=by omega
   rw[Ad Z]at G⊢
   have H:=E.Bc q j p.hb
   have xq:=h.W.sh.Az e _ (Di w)
   have xp:=h.W.sh.A7
   have W:=h.W.sh.Km (g:={Dl g j q (c.at e).AP (c.at e).Ax ((c.at e).Az+1)with An:=(BG j.An.n AO).set 0 (Et g (c.at e))}) (u:=c.Am) (w:=c.round) (q:=c.AA) (by omega) ⟨q,j,Vi E p.hb _ _ _ _ (br H.An.1 _)⟩ ⟨F,R,c.at F,Y,xi,i.AP,i.Ax,by omega,i.Cc,i.GZ,i.hn,i.op,i.CH.t p.ha⟩ B (by show 0<=(c.at e).Az+1/\(c.at e).Az+1<=_;omega)
   have V:=ii (n:=g) (a:=j) (j:=(q:K)) (i:=(c.at e).Az+1) (c:=Et g (c.at e)) (d:=c.Am.l) i.AP i.Ax (h.W.Bs e _) xc H.An.1
   generalize({Dl g j q (c.at e).AP (c.at e).Ax ((c.at e).Az+1)with An:=(BG j.An.n AO).set 0 (Et g (c.at e))}:AK)=u at*
   have X:=h.W.Km W V xg (h.W.Fo e F R I) (h.F8 I Q Om)
   have S:(Ai.mk (c.Ac++[u]) c.Am c.round c.AA).Ac.l=c.Ac.l+1:=AdY
   have xb:(Ai.mk (c.Ac++[u]) c.Am c.round c.AA).at e=c.at e:=by rw[FQ,Ad (by omega)]
   have x:e<(Ai.mk (c.Ac++[u]) c.Am c.round c.AA).Ac.l:=by omega
   have J:=X.RH x (n:=(c.Ac.l:K)) (by grind) (by grind)
   rw[xb]at J
   refine⟨J,λo M U k T=> ?_⟩
   have z:∀{xj:Type}(s:AK->xj),(s {c.at e with next:=(c.Ac.l:K)}=s (c.at e))->∀k,k≠c.Ac.l->s (((Ai.mk (c.Ac++[u]) c.Am c.round c.AA).AJ e {c.at e with next:=(c.Ac.l:K)}).at k)=s (c.at k):=λs xk k xe=>by
    rw[E4 x];split;.grind
    .rw[FQ,Ad xe]
   by_cases y:o=c.Ac.l
   .exact⟨e,by rw[Ej];omega,by rw[HE x,y]⟩
   .have xh:=k.1;rw[Ej,S]at xh;have T:0<(c.at o).Az:=by rw[<-z (λn=>n.Az) B o y];omega
    obtain⟨n,xl,xm⟩:=h.V o M U (⟨by omega,by rw[<-z (λn=>n.AP) B o y];exact k.2.1,by rw[<-z (λn=>n.Ax) B o y];exact k.2.2⟩:CW c o M U) T;refine⟨n,by rw[Ej,S];omega,?_⟩;rw[R7 x P,FQ,Ad (by omega)];omega
 grind
def uD{e:C Ab}(f:BD e){d:Ai}(a:BY e d)(b:c<d.Ac.l)(g:(d.at c).AP≠-1):BY e (ER e d c).1:=by
 obtain⟨z,v,p,y,j,o,t⟩:=a.up b g;obtain⟨x,q,i⟩:=a.W.sh.BC c _ (Di b);unfold ER;simp only[];split;.omega
 .rename_i l;split;.exact Aak f a b g (a.W.Bs c _)
  .rename_i n;have k:=bs f a b g l n;split;.omega
   .rename_i u;obtain⟨r,w,s,m,h⟩:=(XN f a.W.sh (Di b) j i).2.2 Om;refine uA k ?_;rw[(DK m),h.next,AdR];exact(AdN.1 h.Cc).1
def Hk.R6{b c:Ai}(f:Hk b c){a:D}(e:a<b.Ac.l):DQ (b.at a) (c.at a)/\(c.at a).next=(b.at a).next:=by obtain⟨g,d,h,i⟩:=f.Cc a _ (Di e);rw[DK d];grind
def rr{a:C Ab}(f:BD a){c:Ai}(m:BY a c)(e:b<c.Ac.l):BY a (El a c b).1:=by
 unfold El;simp only[];split;.omega
 .rename_i s;have j:=(T7 (c:=a) (Di e)).1;have h:=YM m e;have o:=(j.R6 e).1;have d:b<(Cj a c b).1.Ac.l:=by rw[j.A7];omega
  have i:((Cj a c b).1.at b).AP≠-1:=by rw[o.AP];omega
  have n:=ZP f h d i;obtain⟨w,u,r,v,g,q,t⟩:=h.up d i;have k:=(Uw (b:=a) (Di d) g.AP g.Cc).1;have p:=(k.R6 d).1;split;.omega
  .split;.omega
   .exact uD f n (by rw[k.A7];omega) (by rw[p.AP];omega)
def Tv{a:C Ab}(c:BD a){e:Ai}(d:BY a e):∀b,BY a (B9 a e b).1
 |0=>d
 |b+1=>by
  have f:=Tv c d b;rw[Rx];split;.omega
  .rename_i g;exact rr c f Om
def zas{c:C Ab}(e:BD c){g:D}:∀{h:D}{b:Ai}{d:Ai×K},BY c b->IF c g h b=A d->BY c d.1
 |0,b,d,f,a=>by cases a
 |h+1,b,d,f,a=>by
  have i:=Tv e f g;unfold IF at a;split at a;.grind
  .split at a;.exact zas e i a
   grind
def aw{a:C Ab}(h:BD a){b:Ai}{g:Ai×K}(i:BY a b)(c:Ib a e f b=A g):BY a g.1:=by
 unfold Ib at c
 cases d:IF a e f b with
 |none=>grind
 |some j=>rw[d]at c;have:=zas h i d;grind
def wl(a b:C _):Dm (a++b)=Dm a++Dm b:=by unfold Dm;grind
def PN(a:C _):BH a=(Dm a).l:=by
 induction a with
 |nil=>rfl
 |cons b c d=>
  have:Dm (b::c)=b.AV.m (λe=>e.Ct)++Dm c:=by unfold Dm;grind
  rw[this,AdY,Ad9,<-d];rfl
def b9{f:C _}{h:AE}(k:f[c]? =A h):∃e,(Dm f).Perm (h.AV.m (λb=>b.Ct)++e)/\∀i:AE,(Dm (f.set c i)).Perm (i.AV.m (λb=>b.Ct)++e):=by
 induction f generalizing c with
 |nil=>grind
 |cons d g j=>
  have n:∀(d:AE)(g:C _),Dm (d::g)=d.AV.m (λb=>b.Ct)++Dm g:=λd g=>by unfold Dm;grind
  cases c with
  |zero=>grind
  |succ c=>
   let⟨e,l,m⟩:=j (c:=c) (by grind)
   refine⟨d.AV.m (λb=>b.Ct)++e,?_,P⟩<;>grind
def Pf{a:C _}:Ft a↔a.l<=400/\(∀b∈a,b.I.l<=100/\KK a.l b=L)/\BH a<=6000:=by
 constructor
 .intro c;have e:=c.Sc;unfold I1 at e;split at e;.rename_i h;rw[AdO]at h;exact⟨c.ok.1,λb d=>⟨(c.ok.2 b d).1,P⟩,c.jf⟩
  omega
 .rintro⟨f,l,m⟩
  refine⟨⟨f,λb d=>⟨P,?_⟩⟩,?_⟩
  .let⟨k,g⟩:=Aff.1 d
   let⟨j,i,_⟩:=b9 g
   have:=i.length_eq;rw[<-PN,AdY,Ad9]at this;omega
  .unfold I1;grind
def OO{h:D}{c:AE}:KK h c=L↔(∀b∈c.I,B5 h b)/\∀a∈c.AV,0<=a.B0/\a.B0<=c.I.l-1/\((c.I[a.B0.n]?).g AO).Ak=0:=by
 unfold KK BK;rw[AdO,Aei,Aei];constructor
 .rintro⟨d,e⟩
  refine⟨λb g=>by have:=d b g;rw[Ph b (by omega)]at this;exact this,λa f=> ?_⟩;have:=e a f;simp only[AdO,AdV]at this;grind
 .rintro⟨d,e⟩
  refine⟨λb g=>by rw[Ph b (by omega)];exact d b g,λa f=> ?_⟩;have:=e a f;simp only[AdO,AdV];grind
def gD{a:C AE}(d:Ft a){h b:AE}(l:a[c]? =A h)(m:b.I.l<=100)(n:KK a.l b=L)(e:BH (a.set c b)<=6000):Ft (a.set c b):=by
 let⟨i,j,k⟩:=Pf.1 d
 refine Pf.2 ⟨by grind,λo f=> ?_,e⟩;rw[Aed];rcases AfH f with g|g;.grind
 .grind
def Aad(a:D)(c:K):B5 a (G3 c):=by
 unfold G3;split;.rename_i b;exact b
 .rfl
def dR(b:D)(a:Ah):B5 b (Eu a):=by cases a<;>rfl
def NW(b:D){a:K}(c:1<=a/\a<=5):B5 b (Ed a):=by show BK a 1 5=L;unfold BK;grind
def dz{a:D}:∀{b:C _},(∀c∈b,B5 a c)->B5 a (E5 b)
 |[],_=>It a
 |c::e,d=>by
  unfold E5;split;.grind
  .exact dz P
def gZ(b:D){a:K}(c: -1000000000<=a/\a<=1000000000):B5 b (EA a):=by show BK a _ 1000000000=L;unfold BK;grind
set_option maxHeartbeats 4000000 in
theorem wv (a:D) (d:BN) (b c:N):B5 a (PO d b c):=by
 unfold PO Oz NZ;repeat' split
 all_goals first|exact NW a (by omega)|exact dR a _|exact Aad a _|skip
def vo{a:D}{d:BN}{b:C _}(c:∀e∈b,B5 a e):B5 a (Kc d b):=by
 unfold Kc;split;.exact dz c
 .exact wv a _ _ _
def nA{a:D}{b:N}(c:B5 a b):B5 a (Na b):=by
 unfold Na
 repeat' split
 all_goals first|exact NW a (by omega)|exact dR a _|exact c
structure RU(a:C AE)(b:ED):Prop where
 Fj:Ft (BE a b).m
 A7:a.l<=(BE a b).m.l
 Eo:B5 (BE a b).m.l (BE a b).v
 sub:∀d∈Dm (BE a b).m,d∈Dm a\/(b.op=3/\d=b.Ct)
 Jx:(Dm a).Nodup->b.Ct∉Dm a\/b.op≠3->(Dm (BE a b).m).Nodup
 F1:∀c∈(BE a b).F1,b.op=2/\c.Ct∈Dm a/\c.v=b.c
 kj:(Dm a).Nodup->((BE a b).F1.m (λc=>c.Ct)).Nodup/\∀c∈(BE a b).F1,c.Ct∉Dm (BE a b).m
def Lr{a:C _}(c:Ft a){b:ED}(e:(BE a b).m=a)(f:B5 a.l (BE a b).v)(g:(BE a b).F1=[]):RU a b where
 Fj:=by grind
 A7:=by grind
 Eo:=by grind
 sub:=λj h=>P
 Jx:=λd _=>by grind
 F1:=λk i=>by grind
 kj:=λ_=>by grind
def lf{a:C AE}(d:Ft a){c:ED}(u:c.op=1)(t:B5 a.l c.a):RU a c:=by
 have b:BE a c=⟨(Er a c.a).1,(Er a c.a).2.1,[],(Er a c.a).2.2⟩:=by unfold BE;grind
 unfold Er at b;by_cases g:c.a.Ak=5;.rw[Af g]at b;exact Lr d (by grind) (by grind) (by grind)
 rw[Ad g]at b;by_cases h:c.a.Ak≠1;.rw[Af h]at b;exact Lr d (by grind) (by rw[b];exact NW _ (by omega)) (by grind)
 rw[Ad h]at b;by_cases i:BK c.a.n 0 100=Aa;.rw[Af i]at b;exact Lr d (by grind) (by rw[b];exact NW _ (by omega)) (by grind)
 rw[Ad i]at b;by_cases j:a.l=400;.rw[Af j]at b;exact Lr d (by grind) (by rw[b];exact It _) (by grind)
 rw[Ad j]at b;let⟨r,n,s⟩:=Pf.1 d
 have o:Dm (a++[⟨BG c.a.n.n AO,[]⟩])=Dm a:=by rw[wl];show Dm a++(List.flatMap _ [_])=_;grind
 have l:(a++[(⟨BG c.a.n.n AO,[]⟩:AE)]).l=a.l+1:=by grind
 refine⟨?_,by grind,?_,?_,?_,?_,?_⟩
 .rw[b];refine Pf.2 ⟨by grind,λf q=> ?_,by show BH (a++_)<=_;rw[PN,o,<-PN];grind⟩;show _/\KK (a++_).l f=L;rw[l];rcases Aej.1 q with k|k;.have:=n f k;refine⟨this.1,OO.2 ⟨λm e=>((OO.1 this.2).1 m e).up (by omega),(OO.1 this.2).2⟩⟩
  .have:f=⟨BG c.a.n.n AO,[]⟩:=by grind
   subst this;refine⟨?_,OO.2 ⟨λm e=> ?_,P⟩⟩
   .rw[Afr];have:BK c.a.n 0 100=L:=by grind
    unfold BK at this;grind
   .rw[(List.mem_replicate.1 e).2];exact It _
 .rw[b];show Gt (JJ a.l) (a++_).l=L;rw[l];show BK a.l 0 ((a.l+1)-1)=L;unfold BK;grind
 .intro v p;rw[b]at p;exact .i (by grind)
 .grind
 .grind
 .intro _;rw[b];grind
def Aac{a:C _}(c:Ft a){b:ED}(i:b.op=4)(g:B5 a.l b.a):RU a b:=by
 have d:BE a b=⟨a,L2 a b.a,[],0⟩:=by unfold BE;grind
 refine Lr c (by grind) ?_ (by grind);rw[d];unfold L2;split;.grind
 .split
  .refine gZ _ ?_;split
   .rename_i f e;let⟨j,_,h⟩:=Mt e
    have:=((Pf.1 c).2.1 f P).1;omega
   omega
  .exact NW _ (by omega)
def VH{b:C _}{c:N}(a:B5 b.l c):Kd b c:=λd=>by
 unfold B5 Gt BK at a;rw[Ad (by omega),Ad (by omega),Ad (by omega),Af d]at a;simp only[AdO,AdV]at a;let⟨e,f⟩:=Bb (b:=b) (a:=c.n.n) (by omega)
 exact⟨e,by unfold Iq;grind⟩
def wj{c:C AE}(d:Ft c){a:ED}(S:a.op=3)(x:B5 c.l a.a)(Q:B5 c.l a.b):RU c a:=by
 have b:BE c a=⟨(Eb c a.a a.b a.Ct).1,(Eb c a.a a.b a.Ct).2.1,[],(Eb c a.a a.b a.Ct).2.2⟩:=by unfold BE;grind
 unfold Eb at b;by_cases k:a.a.Ak=5;.rw[Af k]at b;exact Lr d (by grind) (by grind) (by grind)
 rw[Ad k]at b;by_cases l:a.b.Ak=5;.rw[Af l]at b;exact Lr d (by grind) (by grind) (by grind)
 rw[Ad l]at b;by_cases m:a.a.Ak=3;.rw[Af m]at b;exact Lr d (by grind) (by rw[b];exact NW _ (by omega)) (by grind)
 rw[Ad m]at b;by_cases n:a.a.Ak≠4\/a.b.Ak≠1;.rw[Af n]at b;exact Lr d (by grind) (by rw[b];exact NW _ (by omega)) (by grind)
 rw[Ad n]at b;by_cases g:G0 c a.a a.b=Aa;.rw[Af g]at b;exact Lr d (by grind) (by rw[b];exact NW _ (by omega)) (by grind)
 rw[Ad g]at b;have g:G0 c a.a a.b=L:=by grind
 let⟨j,T,e,U,q,f,v,r,w,M,N,P⟩:=Sw (VH x) g
 let⟨I,u,J⟩:=Pf.1 d
 have p:=u e (AdU f);have G:=OO.1 p.2;by_cases h:(O8 c a.a a.b).Ak≠0;.rw[Af h]at b;exact Lr d (by grind) (by grind) (by grind)
 rw[Ad h]at b;by_cases o:6000<=BH c;.rw[Af o]at b;exact Lr d (by grind) (by rw[b];exact It _) (by grind)
 rw[Ad o]at b;have t:Ke c a.a.n (λe=>⟨e.I,e.AV++[⟨a.b.n,a.Ct⟩]⟩)=c.set j ⟨e.I,e.AV++[⟨a.b.n,a.Ct⟩]⟩:=by unfold Ke;grind
 rw[t]at b;let⟨H,z,E⟩:=b9 f
 have s:(Dm (c.set j ⟨e.I,e.AV++[⟨a.b.n,a.Ct⟩]⟩)).Perm (a.Ct::Dm c):=by refine(E _).trans ?_;rw[Aes,AeN];refine List.Perm.trans ?_ (List.Perm.cons _ z.symm);grind
 have R:=(AdN.1 r).1;refine⟨?_,by grind,by rw[b];exact It _,?_,?_,?_,?_⟩
 .rw[b];refine gD d f p.1 (OO.2 ⟨G.1,λF y=> ?_⟩) ?_
  .rcases Aej.1 y with i|i;.grind
   .have:F=⟨a.b.n,a.Ct⟩:=by grind
    subst this;refine⟨by grind,by grind,?_⟩;show((e.I[a.b.n.n]?).g AO).Ak=0;rw[v,AdR,r];rw[w]at h;grind
  .have:=s.length_eq;rw[<-PN,Aec,<-PN]at this;omega
 .grind
 .intro q f;rw[b];refine s.nodup_iff.2 (Afz.2 ⟨?_,q⟩);rcases f with i|i;.grind
  .grind
 .grind
 .intro _;rw[b];grind
def Aah(a:K)(d:N)(e:C BJ):(e.m λf=>f.Ct).Perm (((G4 a d e).m λb=>b.Ct)++(Gg a e).m λf=>f.Ct):=by
 induction e with
 |nil=>exact Af5 _
 |cons c b i=>
  have g:G4 a d (c::b)=(if c.B0=a then[⟨c.Ct,d⟩]else[])++G4 a d b:=by unfold G4;grind
  have h:Gg a (c::b)=(if c.B0=a then[]else[c])++Gg a b:=by unfold Gg;grind
  grind
def kG{b:C AE}(g:Ft b){a:ED}(u:a.op=2)(t:B5 b.l a.a)(Q:B5 b.l a.c)(R:(BE b a).e=0):RU b a:=by
 have d:BE b a=⟨(C9 b a.a a.b a.c).1,NM (C9 b a.a a.b a.c).2.2,(C9 b a.a a.b a.c).2.1,(C9 b a.a a.b a.c).2.2⟩:=by unfold BE;grind
 have z:B5 b.l (NM (C9 b a.a a.b a.c).2.2):=by unfold NM;split<;>rfl
 generalize NM (C9 b a.a a.b a.c).2.2=W at d z;unfold C9 at d;by_cases e:G0 b a.a a.b=Aa;.simp only[Af e]at d;exact Lr g (by grind) (by grind) (by grind)
 simp only[Ad e]at d;have e:G0 b a.a a.b=L:=by grind
 let⟨k,f,c,X,H,h,I,r,J,M,N,s⟩:=Sw (VH t) e
 let⟨F,p,G⟩:=Pf.1 g
 have y:=OO.1 (p c (AdU h)).2;by_cases n:(O8 b a.a a.b).Ak≠0;.grind
 simp only[Ad n]at d;have o:Ke b a.a.n (λc=>⟨c.I.set a.b.n.n a.c,Gg a.b.n c.AV⟩)=b.set k ⟨c.I.set f a.c,Gg a.b.n c.AV⟩:=by unfold Ke;grind
 rw[o,s]at d;simp only[]at d;let⟨E,w,U⟩:=b9 h
 have x:(Dm b).Perm (((G4 a.b.n a.c c.AV).m λm=>m.Ct)++Dm (b.set k ⟨c.I.set f a.c,Gg a.b.n c.AV⟩)):=by refine w.trans ?_;refine(List.Perm.append_right _ (Aah a.b.n a.c c.AV)).trans ?_;grind
 have S:=(AdN.1 r).1;refine⟨?_,by grind,by grind,?_,?_,?_,?_⟩
 .rw[d];refine gD g h (by grind) (OO.2 ⟨λV v=> ?_,λj i=> ?_⟩) ?_
  .rcases AfH v with q|q;.grind
   .grind
  .have i:=List.mem_filter.1 i;have:=y.2 j i.1;have T:j.B0≠f:=by grind
   refine⟨this.1,by grind,?_⟩;show(((c.I.set f a.c)[j.B0.n]?).g AO).Ak=0;rw[AeJ (by omega)];grind
  .have:=x.length_eq;rw[<-PN,AdY,<-PN]at this;omega
 .grind
 .grind
 .intro m l;rw[d]at l;refine⟨u,P,?_⟩;unfold G4 at l;grind
 grind
structure H4(b c:Ai)(e:D->D->Prop):Prop where
 A7:b.Ac.l<=c.Ac.l
 round:c.round=b.round
 En:∀a,a<b.Ac.l->DQ (b.at a) (c.at a)
 Ar:∀a,a<b.Ac.l->IW (b.at a) (c.at a)
 Qs:∀a d,a<b.Ac.l->¬e a d->D9 (c.at a) d=D9 (b.at a) d
def H4.refl(a:Ai)(b:D->D->Prop):H4 a a b:=⟨Om,B,λ_ _=>DQ.refl _,λ_ _=>IW.refl _,Om⟩
def H4.AI{f g h:Ai}{e:D->D->Prop}(a:H4 f g e)(d:H4 g h e):H4 f h e:=
 ⟨Aem a.A7 d.A7,d.round.t a.round,λc b=>(a.En c b).AI (d.En c (Aen b a.A7)),λc b=>(a.Ar c b).AI (d.Ar c (Aen b a.A7)),λc j b i=>(d.Qs c j (Aen b a.A7) i).t (a.Qs c j b i)⟩
def H4.sub{f g:Ai}{d e:D->D->Prop}(a:H4 f g d)(i:∀b c,d b c->e b c):H4 f g e:=⟨a.A7,a.round,a.En,a.Ar,λb c h j=>a.Qs b c h P⟩
def DP.Dj{b:Ai}{e:AK}(a:DP b c e){g:D->D->Prop}(j:∀d,¬g c d->D9 e d=D9 (b.at c) d):H4 b (b.AJ c e) g where
 A7:=by rw[Ej];grind
 round:=B
 En:=λi h=>by
  rw[E4 a.hi];split;.rename_i f;subst f;exact a.En
  .exact DQ.refl _
 Ar:=λi h=>by
  rw[E4 a.hi];split;.rename_i f;subst f;exact a.Ar
  .exact IW.refl _
 Qs:=λi d h k=>by rw[E4 a.hi];grind
def CW.op{e:C Ab}{b:Ai}(h:BY e b)(a:CW b i d c):IM e (b.at d) c=8\/IM e (b.at d) c=9:=by
 let⟨m,l,n,o,g,f,_⟩:=h.up a.1 (by rw[a.2.1];omega)
 have j:m=d:=by have:=a.2.1;have:=f.2.1;omega
 have k:l=c:=by have:=a.2.2;have:=f.2.2;omega
 subst j;subst k;rw[g.IM];exact g.op
structure P4(a:Ai)(b c d:D)(e:N):Prop where
 hi:b<a.Ac.l
 ok:B5 a.Am.l e
 Ky:(EI (a.at b) c d).Ak=0
 AS:0<D9 (a.at b) c
 Hf:∀f,¬CW a f b c
 AV:d=0->((1000*b+c:D):K)∈Dm a.Am->e.Ak=0
def P4.AJ{q:C Ab}{d:Ai}(j:BY q d){i:N}(h:P4 d c e f i):DP d c ((d.at c).AD e f i)where
 hi:=h.hi
 En:=⟨B,B,B,B,B,TJ _ _ _ _,B,B⟩
 next:=B
 Ar:=⟨λ_ _=>B,λg b r=>Kn λa=>by obtain⟨rfl,rfl⟩:=a;exact r h.Ky⟩
 vp:=j.W.vp c
 vo:=λg b=>by
  show B5 _ (E3 (CP (d.at c).AG e f i) g b AO);rcases YN (d.at c).AG e f g b i AO with a|a|a;.rw[a];exact h.ok
  .rw[a];exact j.W.vo c g b
  .rw[a];exact It _
 f0:=j.W.f0 c
 fm:=λ_ k=>k
 Fk:=λg k b=>by have:=j.W.Fk c g k b;refine⟨?_,this.2⟩;show(E3 (CP (d.at c).AG e f i) g b AO).Ak=0;rw[Kn (λa=>by obtain⟨rfl,rfl⟩:=a;have k:D9 (d.at c) g=0:=k;have:=h.AS;omega:¬(g=e/\b=f))];exact this.1
 Fo:=λn b m l=>by show((E3 (CP (d.at c).AG e f i) b l AO).Ak=0↔_);rw[Kn (λa=>by obtain⟨rfl,rfl⟩:=a;exact h.Hf n m:¬(b=e/\l=f))];exact(j.W.Fo n c b m).2 l
 B1:=j.W.B1 c
 AV:=λb p o=>by
  show(E3 (CP (d.at c).AG e f i) b 0 AO).Ak=0;by_cases a:b=e/\0=f
  .obtain⟨rfl,rfl⟩:=a;have:=h.AV B o;rcases YN (d.at c).AG b 0 b 0 i AO with a|a|a;.grind
   .rw[a];exact h.Ky
   .rw[a];rfl
  .rw[Kn a];exact(DP.refl j.W h.hi).AV b p o
def P4.cU{h:C _}(b:BY h a){f:N}(g:P4 a c d e f):BY h (a.AD c d e f)/\H4 a (a.AD c d e f) (λ_ _=>False):=
 ⟨b.AJ (g.AJ b),(g.AJ b).Dj λi _=>B⟩
def XV{d:Ai}(h:e<d.Ac.l)(a b c:D)(k:¬(a=e/\b=f/\c=g)):EI ((d.AD e f g j).at a) b c=EI (d.at a) b c:=by
 unfold Ai.AD;rw[E4 h];split;.rename_i i;subst i;exact Kn Om
 grind
def u1{b:Ai}{h:D}(f:c<b.Ac.l){a:D}:CW (b.AD c g h j) a d e↔CW b a d e:=by
 unfold CW Ai.AD;rw[Ej,E4 f];by_cases i:a=c;.subst i;rw[Af B];rfl
 grind
def BY.Yh{i:C _}{b:Ai}(a:BY i b){e:C _}(k:Ft e)(j:b.Am.l<=e.l)(n:(Dm e).Nodup)(m:∀f∈Dm e,f∈Dm b.Am\/∃c d:D,c<b.Ac.l/\d<1000/\f=(1000*c+d:D)/\IM i (b.at c) d=12/\0<D9 (b.at c) d/\(EI (b.at c) d 0).Ak=0):BY i ⟨b.Ac,e,b.round,b.AA⟩:=⟨{
 sh:=a.W.sh.of B
 Fj:=k
 AA:=a.W.AA
 vp:=λc h=>(a.W.vp c h).up j
 vo:=λc d h=>(a.W.vo c d h).up j
 p0:=a.W.p0
 f0:=a.W.f0
 Fk:=a.W.Fk
 Fo:=a.W.Fo
 B1:=a.W.B1
 KN:=a.W.KN
 L4:=a.W.L4
 AV:=λf l=>by
  rcases m f l with g|g;.exact a.W.AV f g
  .exact g
 Jx:=n},a.V⟩
structure kW(e:C Ab)(a:Ai)(d:Bz)(b c:D):Prop where
 hi:b<a.Ac.l
 hj:c<1000
 rd:d.Ct=((1000*b+c:D):K)
 op:IM e (a.at b) c=12
 AS:0<D9 (a.at b) c
 Ky:(EI (a.at b) c 0).Ak=0
 ok:B5 a.Am.l d.v
 gC:d.Ct∉Dm a.Am
def kn{q:C _}:∀{e:C _}{a:Ai},BY q a->(e.m λg=>g.Ct).Nodup->(∀g∈e,∃h i,kW q a g h i)->BY q (e.foldl HY a)/\H4 a (e.foldl HY a) (λ_ _=>False)/\(e.foldl HY a).Ac.l=a.Ac.l/\(e.foldl HY a).Am=a.Am/\(e.foldl HY a).AA=a.AA/\(∀c d,((1000*c+d:D):K)∉e.m (λg=>g.Ct)->d<1000->∀j,EI ((e.foldl HY a).at c) d j=EI (a.at c) d j)/\(∀k m o,CW (e.foldl HY a) k m o↔CW a k m o)
 |[],a,l,_,_=>⟨l,H4.refl a _,B,B,B,P,P⟩
 |g::e,a,l,t,r=>by
  let⟨h,i,b⟩:=r g P
  let⟨v,p⟩:=(⟨b.hi,b.ok,b.Ky,b.AS,λk u=>by have:=CW.op l u;have:=b.op;omega,λ_ w=>BF (b.rd▸w) b.gC⟩:P4 a h i 0 g.v).cU l
  rw[AeC,Afz]at t;have I:(a.AD h i 0 g.v).Ac.l=a.Ac.l:=Ej ..;let⟨x,y,M,z,E,F,G⟩:=kn (e:=e) v P (λJ N=>by
   let⟨c,d,f⟩:=r J P
   refine⟨c,d,by rw[I];exact f.hi,f.hj,f.rd,?_,?_,by rw[XV b.hi c d 0 (λn=>by obtain⟨rfl,rfl,_⟩:=n;exact t.1 (by rw[b.rd,<-f.rd];grind):¬(c=h/\d=i/\0=0))];exact f.Ky,f.ok,f.gC⟩
   .unfold IM;rw[Y2 (p.En c f.hi)];exact f.op
   .rw[p.Qs c d f.hi id];exact f.AS)
  rw[AeY,(cN b.rd b.hj:HY a g=a.AD h i 0 _)];refine⟨x,p.AI y,Om,z,E,λc d s H j=> ?_,λk m o=>(G k m o).trans (u1 b.hi)⟩;rw[AeC,Ad6]at s;rw[F c d P H j,XV b.hi c d j λn=>s (.i (by rw[b.rd,n.1,n.2.1]))]
def ji{e:C _}(k:BY e a)(l:b<a.Ac.l)(i:IP e (a.at b) d=L):∃g c j h,Dw e g c (a.at b)/\c.Av[d]? =A j/\(a.at b).AS[d]? =A h/\FH (a.at b) j h=L:=by
 let⟨g,c,f⟩:=k.W.sh.BC b _ (Di l)
 unfold IP at i;rw[f.ha,AdR,f.hb]at i;grind
def jk{g:C _}(e:BY g a){h:Au}{d:K}(k:(a.at b).AS[c]? =A d)(f:FH (a.at b) h d=L):D9 (a.at b) c=0:=by
 have j:=e.W.f0 b c;have i:D9 (a.at b) c=d:=by unfold D9;grind
 unfold FH at f;grind
def cI{a:AK}{b:AF}:Hi a b=L↔(Bs a b).Ak≠0:=by unfold Hi Bs;grind
def wq{b:AK}{a:Au}{c:K}(d:FH b a c=L)(g:¬(a.op=8\/a.op=9))(f:a.op≠6):∀e∈a.A3,(Bs b e).Ak≠0:=by
 unfold FH at d;by_cases b:c>0;.grind
 .rw[Ad b,Ad g,Ad f]at d;exactλe h=>cI.1 P
def wr{b:AK}{a:Au}{d:K}(c:FH b a d=L)(e:a.op=8\/a.op=9):(Cu (a.A3.m (Bs b)) 0).Ak≠0:=by
 unfold FH at c;by_cases b:d>0;.grind
 .rw[Ad b,Af e]at c
  cases f:a.A3 with
  |nil=>grind
  |cons h g=>rw[f]at c;exact cI.1 c
def uT{a:N}(b:B5 c a)(d:a.Ak≠0):PK a:=by refine⟨?_,d⟩;unfold B5 at b;rw[<-Ph a (by omega)]at b;unfold Hd at b⊢;grind
def AaP{a:N}(c:B5 b a)(d:a.Ak≠0):Ie a b=L:=by unfold Ie;rw[AdO];exact⟨by grind,c⟩
def iI{b:C _}{a:Au}(c:¬(a.op=8\/a.op=9))(d:a.op≠11)(e:1<=a.op/\a.op<=14):1<=C7 b a:=by unfold C7;omega
def ax{m:C Ab}(o:b<a.Ac.l){h:Ab}{f:Au}(g:Dw m n h (a.at b))(k:h.Av[c]? =A f)(s:d<C7 m f):FB a b c d:=by
 have r:=(AdN.1 k).1;let⟨e,j⟩:=Bb (b:=(a.at b).AG) (a:=c) (by rw[g.AG];grind)
 have:=g.AD c f e k j;let⟨q,p⟩:=Bb (b:=e) (a:=d) (by omega)
 exact⟨_,e,q,Di o,j,p⟩
def AaT{b:C AE}(f:Ft b){a:ED}(g:a.op=2)(i:B5 b.l a.a)(j:B5 b.l a.c):(BE b a).F1.l<1000000/\∀e∈(BE b a).F1,e.Ct∈Dm b:=by
 by_cases c:(BE b a).e=0
 .refine⟨?_,λe l=>((kG f g i j c).F1 e l).2.1⟩;unfold BE;rw[Ad (by omega),Af g];unfold C9;split;.grind
  .split;.grind
   .show List.length (match Iq b a.a.n with|some d=>G4 a.b.n a.c d.AV|none=>[])<1000000;split
    .rename_i d k;let⟨n,_,m⟩:=Mt k
     have:=(f.ok.2 d P).2;unfold G4;grind
    grind
 .have:(BE b a).F1=[]:=by
   have h:BE b a=⟨(C9 b a.a a.b a.c).1,NM (C9 b a.a a.b a.c).2.2,(C9 b a.a a.b a.c).2.1,(C9 b a.a a.b a.c).2.2⟩:=by unfold BE;grind
   rw[h]at c⊢
   show(C9 b _ a.b a.c).2.1=[]
   unfold C9 at c⊢
   grind
  grind
def AaV{e:C Ab}(r:BD e){c:Ai}(b:BY e c){k:Bz}(o:k.Ct∈Dm c.Am):IY c k:=by
 let⟨h,i,g,p,q,a,t,u⟩:=b.W.AV _ o
 have:=b.W.sh.A7
 let⟨s,m,f⟩:=b.W.sh.BC h _ (Di g)
 refine⟨h,i,q,p,by omega,?_⟩
 unfold IM at a
 rw[f.Ca]at a
 cases d:m.Av[i]?with
 |none=>rw[d]at a;exact BF a (by decide)
 |some j=>rw[d]at a;have a:j.op=12:=a;have:=iI (b:=e) (a:=j) (by omega) (by omega) (by omega);exact ax g f d (by omega)
def W3{m:CI}(t:BD m.l){b:Ai}(h:BY m.l b){k:D}(x:c<b.Ac.l)(y:IP m.l (b.at c) k=L):∃u r a w,Dw m.l u r (b.at c)/\r.Av[k]? =A a/\(b.at c).AS[k]? =A w/\FH (b.at c) a w=L/\RV m b ⟨(c:K),(k:K)⟩ c k (b.at c) r a (a.A3.m (Bs (b.at c))):=by
 let⟨u,r,a,w,f,o,S,y⟩:=ji h x y
 refine⟨u,r,a,w,f,o,S,y,?_⟩;have N:=t.Bc u r f.hb;have g:=N.Ax k a o;have xm:=g.some t;have xq:=(AdN.1 o).1;have xp:=N.Av;have xe:=h.W.sh.A7;have xh:(a.A3.m (Bs (b.at c))).l=a.A3.l:=by grind
 have X:∀d∈a.A3.m (Bs (b.at c)),B5 b.Am.l d:=λd j=>by obtain⟨M,_,rfl⟩:=Aeu.1 j;exact h.W.Bs c M
 have xl:¬(a.op=8\/a.op=9)->a.op≠6->∀d∈a.A3.m (Bs (b.at c)),d.Ak≠0:=λn H d j=>by obtain⟨M,xg,rfl⟩:=Aeu.1 j;exact wq y n H M xg
 have xx:¬(a.op=8\/a.op=9)->a.op≠6->∀d∈a.A3.m (Bs (b.at c)),Ie d b.Am.l=L:=λn H d j=>AaP P (xl n H d j);have v:∀z,z<a.A3.l->∃d,(a.A3.m (Bs (b.at c)))[z]? =A d/\d∈a.A3.m (Bs (b.at c)):=λz xr=>by
  let⟨d,j⟩:=Bb (b:=a.A3.m (Bs (b.at c))) (a:=z) (by omega)
  grind
 exact{
  hi:=B
  hj:=B
  hc:=Di x
  ha:=⟨u,f.ha,f.hb⟩
  hn:=o
  hf:=(AdN.1 S).1
  hv:=f.CQ g.A3
  hl:=by omega
  Ld:=by omega
  Fj:=h.W.Fj
  AA:=h.W.AA
  aG:=λn G xd=>⟨{
   A7:=by omega
   Rz:=λR=>⟨by rw[xh];exact(g.Rz R).1,(g.Rz R).2,λd j=>uT (X d j) P⟩
   M3:=λxb=>by have:=g.M3 (by omega);omega
   V1:=λxb=>P
   rd:=by grind},ax x f o (by have:=iI (b:=m.l) n G g.op;omega)⟩
  sw:=λxd=>by
   have xc:=g.M3 Om;let⟨e,E,V⟩:=v 0 (by omega)
   let⟨p,F,xi⟩:=v 1 (by omega)
   have s:=X e V;have xs:C7 m.l a=2:=by unfold C7;omega
   have xv:(-9223372036854775806<=e.n/\e.n<=9223372036854775807)/\(e.Ak=2->0<=e.n/\e.n<=1):=by
    unfold B5 Gt BK at s;split at s;.grind
    .split at s;.grind
     .split at s;.grind
      .split at s;.simp only[AdO,AdV]at s;have:=h.W.Fj.ok.1;omega
       grind
   have xw:0<=(FZ e p).1/\(FZ e p).1<=1:=by unfold FZ;grind
   exact⟨e,p,E,F,Om,Om,ax x f o (by omega)⟩
  st:=λG=>by
   have xo:=g.kg G;let⟨e,E,V⟩:=v 0 (by omega)
   let⟨p,F,xi⟩:=v 1 (by omega)
   let⟨I,xa,xu⟩:=v 2 (by omega)
   have Q:=AaT h.W.Fj (a:=⟨2,e,p,I,0⟩) B P P;refine⟨e,p,I,E,F,xa,λJ xt=> ?_,Q.1,λxk xf=>AaV t h (Q.2 xk xf)⟩;have:J=e\/J=p\/J=I:=by grind
   rcases this with rfl|rfl|rfl;.grind
   .grind
   .grind
  call:=λn=>by
   let⟨U,T⟩:=Bb (b:=(b.at c).AG) (a:=k) (by rw[f.AG];grind)
   have xn:=f.AD k a U o T;have xc:=Rs t a;let⟨Y,Z,xj,W,_⟩:=g.call n
   exact⟨⟨U,T,by omega⟩,xe,λ_=>⟨Y,Z,xj,W,YU t W⟩⟩}
