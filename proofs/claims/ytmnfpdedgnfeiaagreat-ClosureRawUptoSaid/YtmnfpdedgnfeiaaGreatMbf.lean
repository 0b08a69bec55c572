/- Part of the proof. -/
import Derived.Test.YtmnfpdedgnfeiaaGreatMbe
set_option linter.all false
noncomputable section
open Option renaming some->A,none->O,getD->Option.g,bind->Option.b
open _root_ renaming rfl->B,List->C,Nat->D,Int->K,if_neg->Ad,if_pos->Af,Option->Aj,Bool->Ak,cond->An,absurd->A_,decide_eq_false->Ba,decide_eq_true->Be
open Bool renaming true->L,false->Ac
open Decidable renaming decide->Au
open Nat renaming beq->Bb,ble->Co
open List renaming length->List.l,map->List.m,take->List.t,drop->List.d,flatMap->List.f
open Go.IntKind renaming i64->Go.IntKind.n
open Array renaming toList->Array.l
open Eq renaming trans->Eq.t,symm->Eq.s
open Or renaming inl->Or.i,inr->Or.j
open Int renaming toNat->Int.n
namespace Go.Proofs.YtmnfpdedgnfeiaaGreat
open Go.Fg
structure Tk(i:C M)(j:C K)(k:G)(g e:Aa)(l:F)(h:D)(f c:F)(b:G):Prop where
 oc:AF b f M.c 2 (CH (i.t h) j).1
 oo:AF b c Bq 1 (CH (i.t h) j).2
 gq:b.N g=A (.I 2 [.m e,c])
 gr:b.N e=A (.Bu (EJ 0 (CH (i.t h) j).2) (CH (i.t h) j).2.l)
 lq:Lv b g
 lr:Lv b e
 aq:AE c g
 ar:AE c e
 cq:AE f g
 cr:AE f e
 d:CF f c
 BX:∀a,Lv k a->a≠g->a≠e->AE l a->b.N a=k.N a/\Lv b a/\AE c a/\AE f a
def o6(a:G)(d:M):∃c b,a.next=c/\a.V (.I 2 [.i .u8 0,.n 0])=(a.V (.I 2 [.i .u8 0,.n 0]))/\A1 2 (a.V (.I 2 [.i .u8 0,.n 0])) [.p a.next 0,.S (M.c d)]=A (Ax,b)/\AR a b/\b.N c=A (.I 2 (M.c d))/\Lv b c/\¬Lv a c:=
 ⟨_,_,B,B,FL B B,AR.V _ _,P,P,FO _⟩
variable{J:F}{b:G}{g:Aa}{j k:F}
def eJ{e:C _}{u:C K}{q:G}{c:Aa}{h:D}(xh:e.l<=800000)(xg:h<e.l){v:Aa}{o:M}{p:C M}{n:C K}(xf:p.l=h)(Y:(CH (e.t (h+1)) u).1=p++[o])(R:(CH (e.t (h+1)) u).2=n)(T:AF b j M.c 2 p)(U:AF b k Bq 1 n)(S:b.N c=A (.I 2 [.m g,k]))(xb:b.N g=A (.Bu (EJ 0 n) n.l))(t:Lv b c)(I:Lv b g)(N:AE k c)(Q:AE k g)(r:AE j c)(z:AE j g)(W:CF j k)(xa:b.N v=A (.I 2 (M.c o)))(xl:∀a,Lv q a->a≠c->a≠g->AE J a->b.N a=q.N a/\Lv b a/\AE k a/\AE j a):∃l E,jj W9 152 4 [j,.p v 0,.n h,.n e.l,Z M.c e,.p c 0] b=jj W9 152 2 [.n e.l,Z M.c e,.p c 0,.n (h+1:D),l] E/\Tk e u q c g J (h+1) l k E:=by
 let⟨l,s,xj,xk,X,V⟩:=GS (f:=M.c) (w:=2) (b:=o) (o:=.S (M.c o)) (h:=16) (λ_=>B) B B T (EI (by omega))
 have m:∀a,Lv b a->AE j a->s.N a=b.N a/\Lv s a/\AE l a:=by grind
 refine⟨l,s,?_,?_⟩;.rw[Mt.2.2.2.2.2.1];simp only[QY,Mt.2.2.2.2.1,H (BF (a:=h) (by omega)), *]
 .exact{
  oc:=by grind
  oo:=by rw[R];exact U.Av P
  gq:=(m c t r).1.t S
  gr:=by grind
  lq:=(m c t r).2.1
  lr:=(m g I z).2.1
  aq:=N
  ar:=Q
  cq:=(m c t r).2.2
  cr:=(m g I z).2.2
  d:=(CF.of P).symm
  BX:=λa xi xc xd xe=>by grind}
def AeD{j:C M}{m:C K}{N:G}{k:Aa}{X:F}(xR:k≠g)(yq:m.l+j.l<=800000){l:D}{c:M}(xl:j[l]? =A c){xq W:F}{xu:G}(e:Tk j m N k g X l xq W xu):∃E p xN,jj W9 152 2 [.n j.l,Z M.c j,.p k 0,.n l,xq] xu=jj W9 152 2 [.n j.l,Z M.c j,.p k 0,.n (l+1:D),E] xN/\Tk j m N k g X (l+1) E p xN:=by
 have xk:l<j.l:=by grind
 have xr:=Dx xk;have S:=el c (j.t l) m;rw[Gv xl]at S;have xQ:=lN (j.t l) m;have xP:=W2 (j.t l) m;rw[AiH]at xQ xP;have xW:=e.oc;have xA:=e.oo;have xL:=e.gr;have u:(CH (j.t (l+1)) m).1=(CH (j.t l) m).1++[(Hl c (CH (j.t l) m).2).1]:=by grind
 have I:(CH (j.t (l+1)) m).2=(Hl c (CH (j.t l) m).2).2:=by grind
 generalize(CH (j.t l) m).1=x3 at xW u xP;generalize(CH (j.t l) m).2=d at xA xL u I xQ;let⟨h,n,xv,_,xG,z,xc,yf,xT⟩:=o6 xu c
 have xe:=(z.N e.lq).t e.gq;have xj:=(z.N e.lr).t xL;have xh:=z.lv e.lq;have xi:=z.lv e.lr;have xm:=xW.ext z;have xn:=xA.ext z;have xD:n.AA h 0=A (.i .u8 c.Ai):=AJ xc 0;have xZ:n.AA h 1=A (.n c.n):=AJ xc 1;have x0:n.AA k 0=A (.m g):=AJ xe 0;have xY:k≠h:=by grind
 have xC:g≠h:=by grind
 have xX:∀a,Lv N a->a≠k->a≠g->AE X a->n.N a=N.N a/\Lv n a/\AE W a/\AE xq a/\a≠h:=λa i xa t xb=>by have:=e.BX a i xa t xb;exact⟨(z.N this.2.1).t this.1,z.lv this.2.1,this.2.2.1,this.2.2.2,λS=>xT (S▸this.2.1)⟩
 by_cases xf:c.Ai=4
 .have xx:Hl c d=(⟨c.Ai,(d.idxOf c.n)⟩,if d.idxOf c.n=d.l then d++[c.n]else d):=Af xf;rw[xx]at u I;have xg:=w_ xj c.n;by_cases xs:d.idxOf c.n=d.l
  .rw[Af xs]at xg;have I:(CH (j.t (l+1)) m).2=d++[c.n]:=by grind
   have u:(CH (j.t (l+1)) m).1=x3++[⟨c.Ai,d.l⟩]:=by grind
   let⟨p,q,ye,xB,R,t⟩:=GS (f:=Bq) (w:=1) (b:=c.n) (o:=.n c.n) (h:=8) (λ_=>B) B B xn (EI (by omega))
   have xK:=(R.N xh e.aq).t xe;have xd:=(R.N yf P).t xc;have yg:BV .Dg [.p h 1] q (.n c.n)=L:=Jd xd B;have yh:BV .Dg [.p k 0] q (.m g)=L:=Jd xK B;have xS:=AaZ ((R.N xi e.ar).t xj) xs;have xM:(q.set g (.Bu (EJ 0 d++[⟨.n c.n,.n 0,d.l⟩]) (d.l+1))).N g=A (.Bu (EJ 0 d++[⟨.n c.n,.n 0,d.l⟩]) (d.l+1)):=by rw[AY,Af B]
   have xy:∀a,a≠g->(q.set g (.Bu (EJ 0 d++[⟨.n c.n,.n 0,d.l⟩]) (d.l+1))).N a=q.N a:=λa i=>by rw[AY,Ad i]
   have yi:∀a,Lv (q.set g (.Bu (EJ 0 d++[⟨.n c.n,.n 0,d.l⟩]) (d.l+1))) a=Lv q a:=by grind
   generalize q.set g (.Bu (EJ 0 d++[⟨.n c.n,.n 0,d.l⟩]) (d.l+1))=r at xS xM xy yi;have xI:=rB xM;have yb:(r.set g (.Bu (EJ 0 (d++[c.n])) (d++[c.n]).l)).N g=A (.Bu (EJ 0 (d++[c.n])) (d++[c.n]).l):=by rw[AY,Af B]
   have xz:∀a,a≠g->(r.set g (.Bu (EJ 0 (d++[c.n])) (d++[c.n]).l)).N a=r.N a:=λa i=>by rw[AY,Ad i]
   have yj:∀a,Lv (r.set g (.Bu (EJ 0 (d++[c.n])) (d++[c.n]).l)) a=Lv r a:=by grind
   generalize r.set g (.Bu (EJ 0 (d++[c.n])) (d++[c.n]).l)=T at xI yb xz yj;have x9:=(xz k xR).t ((xy k xR).t xK);have xH:=G9 (d:=1) (a:=p) x9 (by omega) (by omega) (CS xB).1 (CS xB).2;have yd:DJ 1 [p] [.m g,W]=[.m g,p]:=B;rw[yd]at xH;have ya:(T.set k (.I 2 [.m g,p])).N k=A (.I 2 [.m g,p]):=by rw[AY,Af B]
   have xV:∀a,a≠k->(T.set k (.I 2 [.m g,p])).N a=T.N a:=λa i=>by rw[AY,Ad i]
   have yk:∀a,Lv (T.set k (.I 2 [.m g,p])) a=Lv T a:=by grind
   generalize T.set k (.I 2 [.m g,p])=U at xH ya xV yk;have x8:=(xV h xY.symm).t ((xz h xC.symm).t ((xy h xC.symm).t xd));have xF:=G9 (d:=1) (a:=.n d.l) x8 (by omega) (by omega) B B;have xw:DJ 1 [.n d.l] (M.c c)=M.c ⟨c.Ai,d.l⟩:=B;rw[xw]at xF;have xJ:(U.set h (.I 2 (M.c ⟨c.Ai,d.l⟩))).N h=A (.I 2 (M.c ⟨c.Ai,d.l⟩)):=by rw[AY,Af B]
   have ym:∀a,a≠h->(U.set h (.I 2 (M.c ⟨c.Ai,d.l⟩))).N a=U.N a:=λa i=>by rw[AY,Ad i]
   have yl:∀a,Lv (U.set h (.I 2 (M.c ⟨c.Ai,d.l⟩))) a=Lv U a:=by grind
   generalize U.set h (.I 2 (M.c ⟨c.Ai,d.l⟩))=xO at xF xJ ym yl;have xp:∀a,Lv xO a=Lv q a:=by grind
   have x5:∀a,a≠k->a≠g->a≠h->xO.N a=q.N a:=by grind
   have x6:=t k xh e.aq;have x7:=t g xi e.ar;have yn:AE p h:=by grind
   have xU:∀{x1:F}{a:Aa}{x2:Aa},AE x1 x2->¬AE x1 a->a≠x2:=by grind
   let⟨E,yc,yo,x4⟩:=eJ (q:=N) (J:=X) (v:=h) (by omega) xk (by omega) u I
    (xm.Av λa i s=>⟨(x5 a (xU e.cq s) (xU e.cr s) P).t (R.N i (e.d.r s)),by rw[xp];exact R.lv i (e.d.r s)⟩)
    (xB.Av P)
    P P (by rw[xp];exact R.lv xh e.aq) (by rw[xp];exact R.lv xi e.ar) x6 x7 e.cq e.cr (CF.of λa s=>t a (xm.Dh s) (e.d.r s)) xJ P
   refine⟨E,p,yc,?_,x4⟩;rw[Mt.2.2.1];simp only[↓Q,↓QD,↓QV,↓QT,xr,Mt.2.2.2.1,↓H (Kz xl),↓H xG,xv,↓H xD,xf,↓H x0,↓H xZ,↓H xg,QB,↓H (AJ xe 1:n.AA k 1=A W),↓H (C4 xn),↓ye,yg,yh,↓MP,↓H xS,↓H xI,↓H xH,Mt.2.2.2.2.2.2,↓H xF];grind
  .rw[Ad xs]at xg;have I:(CH (j.t (l+1)) m).2=d:=by grind
   generalize yp:d.idxOf c.n=J at u xg;have xE:=G9 (d:=1) (a:=.n J) xc (by omega) (by omega) B B;have xw:DJ 1 [.n J] (M.c c)=M.c ⟨c.Ai,J⟩:=B;rw[xw]at xE;have Y:∀a,a≠h->(n.set h (.I 2 (M.c ⟨c.Ai,J⟩))).N a=n.N a:=λa i=>by rw[AY,Ad i]
   have xd:(n.set h (.I 2 (M.c ⟨c.Ai,J⟩))).N h=A (.I 2 (M.c ⟨c.Ai,J⟩)):=by rw[AY,Af B]
   have V:∀a,Lv (n.set h (.I 2 (M.c ⟨c.Ai,J⟩))) a=Lv n a:=by grind
   generalize n.set h (.I 2 (M.c ⟨c.Ai,J⟩))=q at xE Y xd V;let⟨E,r,xt,xo⟩:=eJ (q:=N) (J:=X) (v:=h) (by omega) xk (by omega) u I (xm.Av λa i s=>⟨Y a (λS=>by grind),by rw[V];exact i⟩) (xn.Av λa i s=>⟨Y a (λS=>by subst S;exact xT (xA.Dh s)),by rw[V];exact i⟩)
    ((Y k xY).t xe) ((Y g xC).t xj) (by rw[V];exact xh) (by rw[V];exact xi) e.aq e.ar e.cq e.cr e.d xd (λa i xa t xb=>by have:=xX a i xa t xb;exact⟨(Y a this.2.2.2.2).t this.1,by rw[V];exact this.2.1,this.2.2.1,this.2.2.2.1⟩)
   refine⟨E,W,r,?_,xo⟩;rw[Mt.2.2.1];simp only[↓Q,↓QD,↓QV,↓QT,xr,Mt.2.2.2.1,↓H (Kz xl),↓H xG,xv,↓H xD,xf,↓H x0,↓H xZ,↓H xg,QB,Mt.2.2.2.2.2.2,↓H xE];exact xt
 .have xx:Hl c d=(c,d):=Ad xf;rw[xx]at u I;let⟨E,r,xt,xo⟩:=eJ (q:=N) (J:=X) (v:=h) (by omega) xk (by omega) u I xm xn xe xj xh xi e.aq e.ar e.cq e.cr e.d xc (λa i xa t xb=>by have:=xX a i xa t xb;exact⟨this.1,this.2.1,this.2.2.1,this.2.2.2.1⟩)
  refine⟨E,W,r,?_,xo⟩;rw[Mt.2.2.1];simp only[↓Q,↓QD,↓QV,↓QT,Aic,xr,Mt.2.2.2.1,↓H (Kz xl),↓H xG,xv,↓H xD,xf];exact xt
variable{f:G}
def ii(b:C M)(l:C K)(S:l.l+b.l<=800000){e:Aa}(U:e≠g)(H:f.N e=A (.I 2 [.m g,j]))(J:f.N g=A (.Bu (EJ 0 l) l.l))(W:Lv f e)(X:Lv f g)(Y:AF f j Bq 1 l)(w:AE j e)(x:AE j g):
  ∃i k a,W9 (Ar 152) [.p e 0,Z M.c b] f=A (i,a)/\AF a i M.c 2 (CH b l).1/\AF a k Bq 1 (CH b l).2/\a.N e=A (.I 2 [.m g,k])/\a.N g=A (.Bu (EJ 0 (CH b l).2) (CH b l).2.l)/\Lv a e/\Lv a g/\AE k e/\AE k g/\AE i e/\AE i g/\CF i k/\
   (∀h,Lv f h->h≠e->h≠g->AE j h->a.N h=f.N h/\Lv a h/\AE k h/\AE i h):=by
 have v:Tk b l f e g j 0 .sn j f:={oc:=AF.sn f,oo:=Y,gq:=H,gr:=J,lq:=W,lr:=X,aq:=w,ar:=x,cq:=CM _,cr:=CM _,d:=(LG _).symm,BX:=λh T _ _ P=>⟨B,T,P,CM h⟩}
 let⟨⟨i,k⟩,a,p,c⟩:=Ez (h:=b.l) (f:=λo m a=>jj W9 152 2 [.n b.l,Z M.c b,.p e 0,.n o,m.1] a) (g:=λo m a=>Tk b l f e g j o m.1 m.2 a)
  (λo m a R c=>by
   let⟨xa,V⟩:=Bo R
   let⟨y,k,N,E,u⟩:=AeD U S V c
   exact⟨(y,k),N,E,u⟩) (b:=(.sn,j)) v
 have p:jj W9 152 2 [.n b.l,Z M.c b,.p e 0,.n 0,.sn] f=jj W9 152 2 [.n b.l,Z M.c b,.p e 0,.n b.l,i] a:=p
 have c:Tk b _ f e g j _ i k a:=c
 have r:=c.oc
 have t:=c.oo
 have q:=c.gr
 rw[HV]at r t q
 have z:=Dz b.l
 refine⟨i,_,a,Bd B B ?_,r,t,c.gq,q,c.lq,c.lr,c.aq,c.ar,c.cq,c.cr,c.d,c.BX⟩
 rw[Mt.1]
 simp only[↓Q]
 rw[p,Mt.2.2.1]
 simp only[↓Q,↓QT,Aic,z,Mt.2.1]
structure Vc(n:C M)(k:G)(e d j:Aa)(f:F)(m:D)(l:C (C M))(g:C K)(i:C F)(h c:F)(b:G):Prop where
 P:MK n l j f h i b
 ac:l.l=m
 oo:AF b c Bq 1 g
 gq:b.N e=A (.I 2 [.m d,c])
 gr:b.N d=A (.Bu (EJ 0 g) g.l)
 lq:Lv b e
 lr:Lv b d
 oq:AE c e
 dR:AE c d
 Q8:∀a,ML j f h i a->a≠e/\a≠d/\AE c a
 BX:∀a,Lv k a->a≠e->a≠d->b.N a=k.N a/\Lv b a/\¬ML j f h i a/\AE c a
variable{l:Aa}{t y:F}
def AeB{d:C AG}(xq:Gn d){xd:C M}{E:G}{r m xc:Aa}(xr:l≠r){e:D}{J:C (C M)}{k:C K}{u:C F}{xC:F}{p:G}(b:Vc xd E l r m t e J k u y xC p){g:K}{h:F}(xW:k.l<=400){j:K}(W:k[e]? =A j){s:AG}(xs:G_ d j=A s):∃xL z q T,jj W9 97 2 [.pi [Z AG.c d,.n g,h],.p l 0,.n e,.p m 0,.p xc 0] p=jj W9 97 2 [.pi [Z AG.c d,.n g,h],.p l 0,.n (e+1:D),.p m 0,.p xc 0] T/\Vc xd E l r m t (e+1) (J++[(CH s.I k).1]) (CH s.I k).2 xL z q T:=by
 let⟨xY,xp,V⟩:=OG xs
 have xo:e<k.l:=by grind
 have xX:=(xq.at V).1;have v:=b.P;let⟨Q,q,U,xu,xG,xH,xl,xm,xz,xA,xf,xg,xP,xQ,xU,xb⟩:=ii s.I k (by omega) xr b.gq b.gr b.lq b.lr b.oo b.oq b.dR
 have x:∀a,ML m t y u a->U.N a=p.N a/\Lv U a/\AE q a/\AE Q a:=λa c=>xb a (v.lv c) (b.Q8 a c).1 (b.Q8 a c).2.1 (b.Q8 a c).2.2;have I:=v.Av λa c=>⟨(x a c).1,(x a c).2.1⟩;let⟨z,xV,xn,xv,xK,xe,n⟩:=I.add xG (λa c=>(x a c).2.2.2) (by have:=v.all.AX;have:=b.ac;omega)
 have S:=n l xz (λc=>(b.Q8 l c).1 B);have R:=n r xA (λc=>(b.Q8 r c).2.1 B);have xa:∀a,¬AE q a->¬ML m t y u a:=by grind
 refine⟨u++[Q],z,q,xn,?_,?_⟩
 .have xj:=Dx xo;have xx:=b.gq;have xy:=C4 b.oo;let⟨xi,N⟩:=Dm (f:=Bq) (w:=1) (λ_=>B) b.oo W
  have xJ:AW p [.p xi (e*1)]=A (.n j):=by have:=N.AA (f:=Bq) (λ_=>B) W (b:=0) (by grind);exact this
  have xI:=I.gx;have xt:AZ 2 [Z AG.c d,.n j]=A (.pi (AG.c s)):=by rw[xp];exact S4 V
  have xB:DT [.pi [Z AG.c d,.n g,h]]=A (.pi [Z AG.c d,.n g,h]):=B;have xk:Bt 0 [.pi [Z AG.c d,.n g,h]]=A (.pi [Z AG.c d,.n g,h]):=B;have xw:AW p [.pi [Z AG.c d,.n g,h]]=A (Z AG.c d):=B;rw[Uu.2.2.1];simp only[QY,xB,xk,xw,xx,xy,xj,Uu.2.2.2.1,H N.ia,xJ,xt,xu,xI,xv,xK,Uu.2.2.2.2,BF (a:=e) (by omega)]
 .exact{
  P:=xe
  ac:=by rw[Aio,b.ac];rfl
  oo:=xH.Av λa c j=>⟨(n a c (xa a j)).1,(n a c (xa a j)).2.1⟩
  gq:=S.1.t xl
  gr:=R.1.t xm
  lq:=S.2.1
  lr:=R.2.1
  oq:=xf
  dR:=xg
  Q8:=λa c=>by grind
  BX:=λa c X Y=>by
   let⟨xZ,xD,xE,xF⟩:=b.BX a c X Y
   let⟨xM,xh,xN,xO⟩:=xb a xD X Y xF
   let⟨xR,xS,xT⟩:=n a xh xE
   grind}
def Aac{d:C AG}(I:Gn d)(xc:dl d){v:C M}{r:G}{n t w h:Aa}(xb:n≠t){x:K}(U:r.N h=A (.I 2 [.sn,.sn]))(xe:Lv r h)(xf:h≠n)(xg:h≠t):∀i a c b m f l g,d.l<a+i->Rr d b->Vc v r n t w k a c b m f l g->∃q o,jj W9 97 2 [.pi [Z AG.c d,.n x,y],.p n 0,.n a,.p w 0,.p h 0] g=A (q,o)/\Fz 4 o q (.S (Cr.c ⟨v,J7 d i a c b⟩)):=by
 have S:∀a c b m f l g,¬a<b.l->Vc v r n t w k a c b m f l g->∃q o,jj W9 97 2 [.pi [Z AG.c d,.n x,y],.p n 0,.n a,.p w 0,.p h 0] g=A (q,o)/\Fz 4 o q (.S (Cr.c ⟨v,c⟩)):=by
  intro a c b m f l g xm e;let⟨R,xs,xt,xk⟩:=e.BX h xe xf xg
  have xl:¬a<(b.l:K):=by omega
  have xq:=e.gq;have xr:=C4 e.oo;have xw:=e.P.gx;have Q:Ct [k,f]=L:=by rw[EC];simp[(CS e.P.ov).2,(CS e.P.os).2]
  have xx:=Ho (R.t U) B Q;have xv:(g.set h (.I 2 [k,f])).AU h 0 2=A [k,f]:=B2 (by rw[AY,Af B]);have P:=e.P.Av (g:=g.set h (.I 2 [k,f])) λxu xa=>⟨by rw[AY,Ad (λH=>by grind)],by rw[M3];exact e.P.lv xa⟩;refine⟨.S [k,f],_,?_,P.fz⟩;rw[Uu.2.2.1];simp only[QY,Uu.2.1, *]
 intro i
 induction i with
 |zero=>intro a c b m f l g X p e;have:=p.le;exact S a c b m f l g (by omega) e
 |succ i xd=>
  intro a c b m f l g X p e
  have xo:=p.le
  have:=I.1
  cases s:b[a]?with
  |none=>
   have z:J7 d (i+1) a c b=c:=by show(match b[a]?with|none=>c|some j=>_)=c;rw[s]
   rw[z];grind
  |some j=>
   let⟨u,E⟩:=p.2 j (Ail s)
   have W:Jx d j=u.I:=by unfold Jx;rw[E]
   have z:J7 d (i+1) a c b=J7 d i (a+1) (c++[(CH u.I b).1]) (CH u.I b).2:=by show(match b[a]?with|none=>c|some j=>J7 d i (a+1) (c++[(CH (Jx d j) b).1]) (CH (Jx d j) b).2)=_;rw[s];show J7 d i (a+1) (c++[(CH (Jx d j) b).1]) (CH (Jx d j) b).2=_;rw[W]
   let⟨xj,xi,xh,V,H,J⟩:=AeB (xc:=h) (g:=x) (h:=y) I xb e (by omega) s E
   rw[z,H];let⟨xp,xn,Y⟩:=OG E
   exact xd (a+1) _ _ xj xi xh V (by omega) (ek _ p (xc u (Ail Y))) J
def sY(k:C AG)(x:Gn k)(xk:dl k)(o:K)(p:F)(i:C M)(h:∀xx∈i,Ll k xx)(xF:i.l<=700000):A2 97 [.pi [Z AG.c k,.n o,p],Z M.c i] (.S (Cr.c (GN k i))):=by
 generalize j:((G.Az.V (.I 2 [.sn,.sn])).V (.Bu [] 0)).V (.I 2 [.m (.o .h),.sn])=f;have xd:f.N .h=A (.I 2 [.sn,.sn]):=by rw[<-j];rfl
 have xe:f.N (.o .h)=A (.Bu [] 0):=by rw[<-j];rfl
 have xf:f.N (.i .h)=A (.I 2 [.m (.o .h),.sn]):=by rw[<-j];rfl
 have xn:Lv f .h:=by rw[<-j];exact((GD G.Az _).V _).V _
 have xo:Lv f (.o .h):=by rw[<-j];exact(GD (G.Az.V _) _).V _
 have xp:Lv f (.i .h):=by rw[<-j];exact GD _ _
 have xz:∀(g:F->G->R),bl (.p (G.Az).next 0) ((G.Az).V (.I 2 [.sn,.sn])) g=g (.p .h 0) (G.Az.V (.I 2 [.sn,.sn])):=λ_=>B;have xB:∀(g:F->G->R),bl (.m (G.Az.V (.I 2 [.sn,.sn])).next) ((G.Az.V (.I 2 [.sn,.sn])).V (.Bu [] 0)) g=g (.m (.o .h)) ((G.Az.V (.I 2 [.sn,.sn])).V (.Bu [] 0)):=λ_=>B;have xb:BE [.mn,.sn] [(0,1)] [.m (.o .h)]=A (.S [.m (.o .h),.sn]):=B;have xA:∀(g:F->G->R),bl (.p ((G.Az.V (.I 2 [.sn,.sn])).V (.Bu [] 0)).next 0) (((G.Az.V (.I 2 [.sn,.sn])).V (.Bu [] 0)).V (.I (BK (F.I (.S [.m (.o .h),.sn]))) (F.I (.S [.m (.o .h),.sn])))) g=g (.p (.i .h) 0) f:=λg=>by rw[<-j];rfl
 have y:(Aa.i .h)≠.o .h:=by grind
 let⟨b,S,a,xm,m,xt,xg,xh,E,I,xu,xv,xC,xD,xE,xs⟩:=ii i [] (by grind) y xf xe xp xo (AF.sn f) (CM _) (CM _)
 have e:AR a (a.V (.I 2 [b,.sn])):=AR.V _ _;have q:(a.V (.I 2 [b,.sn])).N a.next=A (.I 2 [b,.sn]):=by grind
 have s:Lv (a.V (.I 2 [b,.sn])) a.next:=by grind
 have Y:Ct [b,.sn]=L:=by rw[EC];simp[(CS m).2,show FX .sn=L from B]
 have t:A1 2 (a.V (.I 2 [.sn,.sn])) [.p a.next 0,.S [b,.sn]]=A (Ax,a.V (.I 2 [b,.sn])):=FL B Y;have W:∀(z:F->G->R),bl (.p a.next 0) (a.V (.I 2 [.sn,.sn])) z=z (.p a.next 0) (a.V (.I 2 [.sn,.sn])):=λ_=>B;have Q:¬Lv a a.next:=FO _;generalize xl:a.next=n at q s t W Q;generalize a.V (.I 2 [b,.sn])=l at e q s t;have xy:∀c,ML n b .sn [] c->c=n\/¬AE b c:=λc h=>by
  rcases h with rfl|h|⟨xw,r,h⟩;.grind
  .exact A_ (CM c) h
  .grind
 have X:Vc (CH i []).1 f (.i .h) (.o .h) n b 0 [] (CH i []).2 [] .sn S l:={
  P:={
   ov:=m.ext e,os:=AF.sn l,all:=.nil,gx:=q,lx:=s
   JC:=λxw r=>by
    rcases r with rfl|r;.exact⟨Aih λJ=>Q (m.Dh J),LG _⟩
    .grind
   sx:=CM _}
  ac:=B
  oo:=xt.ext e
  gq:=(e.N E).t xg
  gr:=(e.N I).t xh
  lq:=e.lv E
  lr:=e.lv I
  oq:=xu
  dR:=xv
  Q8:=λc h=>by grind
  BX:=λc h xi xj=>by
   let⟨xq,U,xr,xH⟩:=xs c h xi xj (CM c)
   refine⟨(e.N U).t xq,e.lv U,λw=> ?_,xr⟩;rcases xy c w with rfl|w;.grind
   .grind}
 let⟨V,v,u,xc⟩:=Aac (x:=o) (y:=p) x xk y (h:=.h) xd xn (by grind) (by grind) 401 0 [] (CH i []).2 [] .sn S l (by have:=x.1;omega) (ek i ⟨AjL,λJ xG=>by grind⟩ h) X
 have u:jj W9 97 2 [.pi [Z AG.c k,.n o,p],.p (.i .h) 0,.n 0,.p n 0,.p .h 0] l=A (V,v):=u;refine Fz.Qr B B (f:=V) (d:=v) (c:=4) ?_ xc (by omega);have xa:BE [.sn,.sn] [(0,1)] [b]=A (.S [b,.sn]):=by rcases m with⟨rfl,_⟩|⟨_,_,rfl,_⟩<;>rfl
 rw[Uu.1,xz,xB];simp only[↓H xb];rw[xA];simp only[↓H xm,↓H xa,xl,↓W,↓H t];grind
structure IY(t:Aa->Prop)(b c:G):Prop where
 p:F2 b c
 o:∀a,¬t a->c.N a=b.N a
 l:∀a,Lv c a=Lv b a
theorem IY.refl(t:Aa->Prop)(a:G):IY t a a:=⟨F2.refl a,P,P⟩
theorem IY.AQ{t:Aa->Prop}{d e f:G}(b:IY t d e)(c:IY t e f):IY t d f:=⟨b.p.AQ c.p,λa g=>(c.o a g).t (b.o a g),λa=>(c.l a).t (b.l a)⟩
theorem IY.rc{t:Aa->Prop}{a:G}{b:Aa}{d:D}{c:C F}(f:t b)(e:Eg (a.N b)=A (d,c)):IY t a (a.set b (.rc d c)):=
 ⟨F2.rc e,λh g=>by rw[AY,Ad P],P⟩
def Fs(t:Aa->Prop)(e:D)(c:G)(g d:F):Prop:=∀f a,F2 c a->∃b,DI (f+e) a g=A (d,b)/\IY t a b
def B6(t:Aa->Prop)(e:D)(c:G)(g d:C F):Prop:=∀f a,F2 c a->∃b,Df (DI (f+e)) a g=A (d,b)/\IY t a b
section
variable{t:Aa->Prop}
theorem Fs.im{c:G}{a:F}(d:Im a=L):Fs t 1 c a a:=λe b _=>⟨b,VQ e b d,IY.refl t _⟩
theorem Fs.sn(a:G):Fs t 1 a .sn (.CZ []):=λc b _=>⟨b,B,IY.refl t _⟩
theorem Fs.up{a b:D}{c:G}{e d:F}(g:Fs t a c e d)(m:a<=b):Fs t b c e d:=λh f i=>by
 let⟨j,k,l⟩:=g (h+(b-a)) f i
 grind
theorem B6.nil(c:D)(a:G):B6 t c a [] []:=λd b _=>⟨b,B,IY.refl t _⟩
theorem B6.cons{b:D}{a:G}{h d:F}{i e:C F}(n:Fs t b a h d)(o:B6 t b a i e):B6 t b a (h::i) (d::e):=λf p g=>by
 let⟨q,k,c⟩:=n f _ g
 let⟨j,l,m⟩:=o f _ (g.AQ c.p)
 exact⟨j,by rw[R1,k,Aig,l];rfl,c.AQ m⟩
theorem B6.EK{b:D}{a:G}{h c i d:C F}(o:B6 t b a h c)(q:B6 t b a i d):B6 t b a (h++i) (c++d):=by
 intro e j f;let⟨k,m,g⟩:=o e j f
 let⟨l,n,p⟩:=q e k (f.AQ g.p)
 refine⟨l,?_,g.AQ p⟩;rw[b8,m,Aig,n];rfl
theorem B6.Nu{c:G}:∀{a:C _},a.all Im=L->B6 t 1 c a a
 |[],_=>B6.nil 1 c
 |d::a,b=>by rw[AiK,Aie]at b;exact B6.cons (Fs.im b.1) (B6.Nu b.2)
theorem B6.b2{h i:Type}{b:D}{a:G}{d:i->C F}{e:h->C F}{f:C h}{g:C i}(c:Ge (λk l=>B6 t b a (d k) (e l)) g f):B6 t b a (g.f d) (f.f e):=by
 induction c with
 |nil=>exact B6.nil b a
 |cons c m j=>rw[AiV,AiV];exact B6.EK c j
theorem Fs.Z{h:D}{i:G}{d:Aa}{f a w c b:D}{u m e:C F}(H:t d)(z:Eg (i.N d)=A (b,e))(E:f+a*c<=b)(I:(e.d f).t (a*c)=u)(y:B6 t h i u m):Fs t (h+1) i (.Z d f a w c) (.CZ (I3 c a m)):=by
 intro k g r;by_cases n:a=0;.subst n;exact⟨g,B,IY.refl t _⟩
 have o:=r.1 d b e z;let⟨v,x,s⟩:=y k g r
 refine⟨v.set d (.rc b e),?_,s.AQ (IY.rc H (s.p.1 d b e o))⟩;show An (Bb a 0) _ (match Eg (g.N d)with|some (b,q)=>An (Co (f+a*c) b) (match Df (DI (k+h)) g ((q.d f).t (a*c))with|some (l,j)=>A (F.CZ (I3 c a l),j.set d (.rc b q))|none=>O) O|none=>O)=_;rw[G0 n,o];show An (Co (f+a*c) b) (match Df (DI (k+h)) g ((e.d f).t (a*c))with|some (l,j)=>A (F.CZ (I3 c a l),j.set d (.rc b e))|none=>O) O=_;rw[Air E,I,x];rfl
theorem Fs.Na{q r:Type}{k:D}{e:G}{f:Aa}{j d:D}{b:C r}{m:C q}{g:r->C F}{h:q->C F}(v:t f)(x:∀a,(g a).l=d)(u:∀a,(h a).l=d)(s:Eg (e.N f)=A (b.l*d,b.f g))(i:Ge (λa y=>B6 t k e (g a) (h y)) b m):Fs t (k+1) e (.Z f 0 b.l j d) (YtmnfpdedgnfeiaaGreat.Z h m):=by have l:=Fs.Z (w:=j) (f:=0) (c:=d) (a:=b.l) v s (by omega) (by rw[AiE,AiX (by rw[N2 x];grind)]) (B6.b2 i);rw[i.AX,Vy u]at l;rw[i.AX];exact l
theorem Fs.CC{s:Type}{e:G}{f:F}{a:s->C _}{g:D}{b:C _}(i:∀k,¬AE f k->t k)(j:∀c,(a c).l=g)(u:∀c,(a c).all Im=L)(n:AF e f a g b):Fs t 2 e f (YtmnfpdedgnfeiaaGreat.Z a b):=by
 rcases n with⟨rfl,rfl⟩|⟨l,m,rfl,o,h,_⟩;.exact(Fs.sn e).up (by omega)
 .refine Fs.Na (k:=1) (i l (λr=>r 0 b.l m g B)) j j (by rw[h];rfl) ?_
  clear h o i
  induction b with
  |nil=>exact .nil
  |cons c v q=>exact .cons (B6.Nu P) q
theorem Fs.SL{m n:Type}{c:D}{a:G}{h:F}{d:n->C _}{e:m->C F}{b:D}{g:C n}{k:C m}(u:∀l,¬AE h l->t l)(z:1<=c)(x:∀f,(d f).l=b)(v:∀i,(e i).l=b)(r:AF a h d b g)(j:Ge (λf i=>B6 t c a (d f) (e i)) g k):Fs t (c+1) a h (YtmnfpdedgnfeiaaGreat.Z e k):=by
 rcases r with⟨rfl,w⟩|⟨o,q,rfl,_,s,_⟩;.have:=Aju.1 (by rw[<-j.AX,w];rfl);subst this;exact(Fs.sn a).up (by omega)
 .exact Fs.Na (u o (λy=>y 0 g.l q b B)) x v (by rw[s];rfl) j
theorem Fs.S{a:D}{c:G}{b e:C F}(h:B6 t a c b e):Fs t (a+1) c (.S b) (.S e):=λf d k=>by
 let⟨g,m,l⟩:=h f d k
 refine⟨g,?_,l⟩;show(match Df (DI (f+a)) d b with|some (j,i)=>A (F.S j,i)|none=>O)=_;grind
theorem Fs.p{e:D}{d:G}{a:Aa}{f b:D}{c h:C F}(s:t a)(q:Eg (d.N a)=A (b,c))(n:B6 t e d c h):Fs t (e+1) d (.p a f) (.pi (h.d f)):=λi g k=>by
 let⟨m,v,l⟩:=n i g k
 have r:=k.1 a b c q;refine⟨m.set a (.rc b c),?_,l.AQ (IY.rc s (l.p.1 a b c r))⟩;show(match Eg _ with|some (b,j)=>(match Df (DI (i+e)) g j with|some (u,o)=>A (F.pi (u.d f),o.set a (.rc b j))|none=>O)|none=>O)=_;grind
theorem B6.F9{a:D}{b:G}{f e:C F}(h:B6 t a b f e)(i:a<=40):∃c,Go.Fg.F9 b f=A (e,c)/\IY t b c:=by
 let⟨c,d,g⟩:=h (40-a) b (F2.refl _)
 rw[show 40-a+a=40 by omega]at d;exact⟨c,d,g⟩
theorem Dn.fs{h:G}{r:F}{i l:D->F}{n:C AG}(p:Dn h r i l n)(m:∀b,Ck r i l n.l b->t b):Fs t 3 h r (Z AG.c n):=by
 have H:∀(j:C AG)(d:D),(∀(a:D) e,j[a]? =A e->AF h (i (d+a)) M.c 2 e.I/\AF h (l (d+a)) BU.c 2 e.AV/\(∀b,¬AE (i (d+a)) b->t b)/\(∀b,¬AE (l (d+a)) b->t b))->Ge (λJ N=>B6 t 2 h (HT i l J) (AG.c N)) (List.range' d j.l) j:=by
  intro j
  induction j with
  |nil=>intro d _;exact .nil
  |cons e P E=>
   intro d s;rw[AiD,List.range'_succ];let⟨v,x,y,z⟩:=s 0 e B
   refine .cons (B6.cons (Fs.CC (a:=M.c) (g:=2) y (λ_=>B) (λ_=>B) v) (B6.cons (Fs.CC (a:=BU.c) (g:=2) z (λ_=>B) (λ_=>B) x) (B6.nil _ _))) (E (d+1) λa I m=> ?_);have:=s (a+1) I (by grind);rwa[show d+(a+1)=d+1+a by omega]at this
 refine Fs.SL (d:=HT _ _) (e:=AG.c) (b:=2) (λb k=>m b (.i k)) (by omega) (λ_=>B) (λ_=>B) p.o ?_;rw[Akl];refine H n 0 λa e q=> ?_;rw[Aix];have u:=(Aid.1 q).1;exact⟨p.c a e q,p.w a e q,λb k=>m b (.j ⟨a,u,.i k⟩),λb k=>m b (.j ⟨a,u,.j k⟩)⟩
theorem FF.fs{g:G}{k i:F}{h l:D->F}{b:C _}{j:C BM}{c:Aa}(d:FF b j c k i h l g)(e:∀a,OO c k i h l b.l a->t a):Fs t 4 g (.p c 0) (.pi [Z AG.c b,.n (BZ b),Z BM.c j]):=
 Fs.p (f:=0) (h:=[Z _ b,.i _ _,Z _ _]) (e c (.i B)) (by rw[d.gx];rfl) (B6.cons (d.M.fs λa m=>e a (.j (.i m))) (B6.cons ((Fs.im B).up (by omega)) (B6.cons ((Fs.CC (a:=BM.c) (g:=3) (λa n=>e a (.j (.j n))) (λ_=>B) (λ_=>B) d.ot).up (by omega)) (B6.nil _ _))))
end
def n7{e d:Aa}{z:C F}{c:C AG}{n y:D->F}(E:c.l<=400)(o:b.N e=A (.I 1 [.p d 0]))(v:Lv b e)(q:b.N d=A (.I 3 (j::z)))(w:Lv b d)(x:AF b j (HT n y) 2 (List.range c.l))(t:C _):NU (AR b) (Ar 95) [.p e 0] t (λd=>.S (M.c d)) (λa=> !GP a c.l):=λa _ g k=>by
 have h:=YF a c.l (by omega);let⟨I,i,s,r,l,p,H,_⟩:=box g (.I 2 (M.c a))
 have Q:=K2 g a s r;have f:=k.AQ l;have N:=p;have J:=(f.N v).t o;have P:=(f.N w).t q;have u:=C4 x;rw[Aip]at u;refine⟨i,Bd B B ?_,f⟩;show xx W9 95 [.S (M.c a),.p e 0] g=A (.b (!GP a c.l),i);generalize GP a c.l=m at h⊢;rw[wO];cases m<;>simp only[QY,h.H B,QB, *]
variable{m:F}
def iG{c:C AG}(n:Gg c){h:G}{xi xL:D->F}(xe:Dn h k xi xL c){d:C M}(xG:AF h m M.c 2 d)(xQ:d.l<=100)(i:∀q∈d,GP q c.l=L):∃N,W9 (Ar 55) [.S [k],m] h=A (.AC [.S (Cr.c (GN c d)),.n 0],N)/\IC m h N:=by
 let⟨W,p,xw,xr,xb,xm,xB,xU⟩:=box h (.I 1 [k])
 let⟨g,l,xx,xs,I,xn,xC,xV⟩:=box p (.I 2 [.sn,.sn])
 have xM:∀(o:F->G->R),bl (.p h.next 0) (h.V (.I (BK (F.I (.S [k]))) (F.I (.S [k])))) o=o (.p W 0) p:=Em h (.I 1 [k]) xw xr
 have xN:∀(o:F->G->R),bl (.p p.next 0) (p.V (.I 2 [.sn,.sn])) o=o (.p g 0) l:=Em p _ xx xs
 have z:=xb.AQ I
 have xF:¬Lv h g:=by grind
 have xJ:l.AU W 0 1=A [k]:=B2 ((I.N xB).t xm)
 let⟨e,Y,T,xa,b,xj,xf,J,xl⟩:=h9 n.ok n.Vx (xe.ext z)
 have r:AR b (b.V (.I 1 [.p e 0])):=AR.V _ _
 have u:(b.V (.I 1 [.p e 0])).N b.next=A (.I 1 [.p e 0]):=by grind
 have y:Lv (b.V (.I 1 [.p e 0])) b.next:=by grind
 have xE:¬Lv b b.next:=FO _
 have X:A1 1 (b.V (.I 1 [.pn])) [.p b.next 0,.p e 0]=A (Ax,b.V (.I 1 [.p e 0])):=by have xK:(b.V (.I 1 [.pn])).set b.next (.I 1 [.p e 0])=b.V (.I 1 [.p e 0]):=W_ _ _ _;rw[Xj (I8 _ _) B B,xK]
 generalize xy:b.next=xI at u y xE X
 generalize b.V (.I 1 [.p e 0])=xq at r u y X
 have t:=xf.ext r
 have xd:=z.AQ (J.AQ r)
 have E:=xG.ext xd
 have xT:=C4 E
 have xO:¬(d.l:K)>100:=by omega
 let⟨v,xA,s⟩:=NX Vt T8 (Jt.CC (c:=M.c) (a:=2) (λ_=>B) E) (n7 n.ok.1 u y t.gx t.lx t.M.o d) (by omega) xq (λxX xv=>⟨B,xv⟩)
 rw[Rz (λq=>GP q c.l),AiP.2 i]at xA
 have xg:=t.ext s
 have xH:=E.ext s
 have xZ:v.AA xI 0=A (.p e 0):=AJ ((s.N y).t u) 0
 have xz:=qB n.Vx
 have xo:=sY c n.ok xz (BZ c:K) (Z BM.c []) d (λq xR=>cO (by rw[R8 q (by omega)];grind)) (by omega)
 let⟨j,xk,V⟩:=B6.F9 (t:=λa=>OO e Y .sn T xa c.l a\/¬AE m a) (B6.cons (xg.fs λa i=>.i i) (B6.cons ((Fs.CC (a:=M.c) (g:=2) (λa xD=>.j xD) (λ_=>B) (λ_=>B) xH).up (by omega)) (B6.nil 4 v))) (by omega)
 have xS:=xo v _ j xk
 have xW:∀a,Lv l a->¬OO e Y .sn T xa c.l a:=λa i xt=>by
  have:=xl a i;rcases xt with x|x|x;.grind
  .grind
  .exact x (CM a)
 have xh:AE m g:=by grind
 have xc:AR l v:=J.AQ (r.AQ s)
 have P:∀a,Lv l a->AE m a->j.N a=l.N a/\Lv j a:=λa i U=>⟨(V.o a (λx=>by grind)).t (xc.N i),by rw[V.l];grind⟩
 have xp:=(P g xC xh).1.t xn
 have x0:A1 2 j [.p g 0,.S (Cr.c (GN c d))]=A (Ax,j.set g (.I 2 (Cr.c (GN c d)))):=Ho xp B B
 have xY:(j.set g (.I 2 (Cr.c (GN c d)))).AU g 0 2=A (Cr.c (GN c d)):=B2 (by rw[AY,Af B])
 refine⟨j.set g (.I 2 (Cr.c (GN c d))),Bd B B ?_,λa i U=> ?_⟩
 rotate_left
 .have:=P a (z.lv i) U;have xu:a≠g:=λxP=>xF (by grind);exact⟨by rw[AY,Ad xu];grind,by grind⟩
 .rw[c2.1];simp only[↓xM,↓xN,↓Q,↓QT,Aic,↓H xJ,↓H xj];rw[xy];simp only[QY,Int.reduceEq,QB,c2.2.2,c2.2.1, *]
def Vf(a:G)(d:F)(c:C K):Prop:=AF a d Bq 1 c\/(c=[]/\∃b e f,d=.Z b 0 0 0 1/\a.N b=A (.I e f))
def Ab8{q:F}{e a:C K}(k:Vf b q e)(s:(e.l+a.l)*8<=Hs):∃i g,Eo 1 8 b [q,Z Bq a]=A (i,g)/\Vf g i (e++a):=by
 rcases k with k|⟨rfl,c,h,y,rfl,m⟩
 .let⟨i,g,d,v,_⟩:=UK (f:=Bq) (w:=1) (j:=8) (λ_=>B) (λ_=>B) k s
  exact⟨i,g,d,.i v⟩
 .have l:KP (Z Bq a)=A a.l:=by unfold Z;show A (a.m Bq).l=_;grind
  have r:HO b 1 a.l (Z Bq a)=A (a.f Bq):=by
   unfold Z;show An (Co a.l (a.m Bq).l&&((a.m Bq).all λd=>Bb d.l 1)) (A (((a.m Bq).t a.l).flatten)) O=_;have z:Co a.l (a.m Bq).l=L:=Air (by grind);have E:((a.m Bq).all λd=>Bb d.l 1)=L:=by rw[AiP];intro d t;obtain⟨x,_,rfl⟩:=AiR.1 t;rfl
   grind
  have p:∀j,LA b 1 8 (.Z c 0 0 0 1) a.l (a.f Bq)=j->Eo 1 8 b [.Z c 0 0 0 1,Z Bq a]=j:=λj d=>by
   show(match KP (Z Bq a)with|some h=>(match HO b 1 h (Z Bq a)with|some o=>An (Ct o) (LA b 1 8 (.Z c 0 0 0 1) h o) O|none=>O)|none=>O)=_
   rw[l];simp only[r]
   rw[(λe=>by
   induction e with
   |nil=>rfl
   |cons x H n=>rw[EC]at n⊢;rw[AiV,Ajm,n];rfl:∀e:C K,Ct (e.f Bq)=L)];grind
  by_cases u:a.l=0
  .have:a=[]:=by grind
   subst this;exact⟨.Z c 0 0 0 1,b,p _ B,.j ⟨B,c,h,y,B,m⟩⟩
  .refine⟨.Z b.next 0 (0+a.l) 0 1,(b.Hg c).V (.I ((0+a.l)*1) (a.f Bq)),p _ ?_,.i ?_⟩;.show An _ _ _=_;rw[G0 u,Air (by grind)];show An (Y2 (b.N c)) (A (F.Z b.next 0 (0+a.l) 0 1,(b.Hg c).V (.I ((0+a.l)*1) (EK [] (a.f Bq))))) O=_;rw[m,Lz,Akv];rfl
   .have l:(b.Hg c).next=b.next:=G.UD _ _
    refine .j ⟨b.next,0,by simp,Om,?_,?_⟩<;>grind
def Ab9{d:F}{c:C _}(a:Vf b d c):Fz 2 b d (Z Bq c):=by
 rcases a with a|⟨rfl,g,j,k,rfl,h⟩;.exact Fz.CC (b:=Bq) (h:=1) (λ_=>B) (λ_=>B) a
 .exactλi e _=>⟨e,B,F2.refl _⟩
def ty(c:D)(r:c<=1000000000)(d:G):∃k g,W9 (Ar 160) [.sn,.n c] d=A (k,g)/\Vf g k []:=by
 have m:¬(c:K)<0:=by omega
 have n:If [.sn]=A (.n 0):=B;have p:Ea [.sn]=A (.n 0):=B;have i:=Gu (a:=0) (b:=0) (by omega) (by omega);have j:=Gu (a:=(c:K)) (b:=0) (by omega) (by omega);rw[show(0:K)-0=0 by omega]at i;rw[show(c:K)-0=c by omega]at j;have f:=E6 .n (c:K) 0;by_cases o:c=0;.rw[Ba (by omega)]at f;refine⟨.sn,d,Bd B B ?_,.i (AF.sn d)⟩;rw[Ud.1];simp only[QY,m,Ud.2.1,n,p,i,j,f,Ud.2.2]
 .rw[Be (by omega)]at f;have s:Hz 1 Ac L [.sn,.n 0]=A .sn:=B;have l:Ct (GG [.n 0] c)=L:=by
   have:∀e,Ct (GG [.n 0] e)=L:=λe=>by
    induction e with
    |zero=>rfl
    |succ e h=>show Ct (EK [.n 0] (GG [.n 0] e))=L;rw[Lz];rw[EC]at h⊢;rw[Ajm,h];rfl
   grind
  have q:HL [.n 0] 1 8 d [.sn,.n (c:K)]=A (.Z d.next 0 c 0 1,d.V (.I (c*1) (GG [.n 0] c))):=by show An (An (Co (c*8) Hs) (Ct (GG [.n 0] c)) Ac) (An (Bb c 0) (A (F.sn,d)) (An (Co (c*8) Hs) (A (F.Z d.next 0 c 0 1,d.V (.I (c*1) (GG [.n 0] c)))) O)) O=_;rw[Air (EI (by omega)),l,G0 o];rfl
  have t:Hz 1 Ac L [.Z d.next 0 c 0 1,.n 0]=A (.Z d.next 0 0 0 1):=B;refine⟨.Z _ 0 0 0 1,_,Bd B B ?_,.j ⟨B,d.next,_,_,B,I8 d (.I (c*1) (GG [.n 0] c))⟩⟩;rw[Ud.1];simp only[QY,Ud.2.1,Ud.2.2, *]
def RZ:∀a:C (C K),a.flatten.l=El a
 |[]=>rfl
 |c::b=>by rw[AjG,Aio,RZ b];rfl
def st{b:C (C K)}{a:D}{c:C K}(d:b[a]? =A c):(b.t (a+1)).flatten=(b.t a).flatten++c:=by rw[<-Gv d,List.flatten_append];simp
def ta(c:C (C K))(V:c.l<=2000000)(U:El c<=100000000):A2 109 [Z CG c] (Z Bq c.flatten):=by
 have w:∀{e:D}{f:C K},c[e]? =A f->El (c.t e)+f.l<=El c:=λ{e f} j=>by have T:=U2 j;have t:=eG (b:=c) (e+1);omega
 let⟨l,g,p,y⟩:=Ez (h:=c.l) (f:=λe (l:D) g=>jj W9 109 6 [.n (c.l:K),Z CG c,.n (e:K),.n (l:K),Z CG c] g) (g:=λe l g=>g=G.Az/\l=El (c.t e))
  (λe l g m q=>by
   obtain⟨rfl,rfl⟩:=q;let⟨f,j⟩:=Bo m
   have M:=w j;have E:=GJ (a:=(El (c.t e):K)) (b:=(f.l:K)) (by omega) (by omega);rw[show(El (c.t e):K)+(f.l:K)=((El (c.t e)+f.l:D):K) by omega]at E;have z:¬((El (c.t e)+f.l:D):K)<0:=by omega
   refine⟨El (c.t e)+f.l,G.Az,?_,B,(U2 j).s⟩;show jj W9 109 6 _ _=jj W9 109 6 _ _;rw[NC.2.2.1];simp only[QY,(Dx m),NC.2.2.2.1,H (Kg j),M0,z,NC.2.2.2.2.1,H (BF (a:=e) (by omega)), *])
  (b:=0) (a:=G.Az) ⟨B,B⟩
 obtain⟨rfl,rfl⟩:=y;rw[HV]at p;have p:jj _ 109 6 [.n c.l,Z CG c,.n 0,.n 0,Z CG c] G.Az=jj W9 109 6 [.n c.l,Z CG c,.n c.l,.n (El c),Z CG c] G.Az:=p;let⟨x,v,N,P⟩:=ty (El c) (by omega) G.Az
 let⟨k,t,r,u⟩:=Ez (h:=c.l) (f:=λe k g=>jj W9 109 2 [.n c.l,Z CG c,.n e,k] g) (g:=λe k g=>Vf g k (c.t e).flatten)
  (λe k g m q=>by
   let⟨f,j⟩:=Bo m
   have o:=Dx m;have M:=w j;let⟨R,J,S,W⟩:=Ab8 (a:=f) q (EI (by rw[RZ];omega))
   refine⟨R,J,?_,by rw[st j];grind⟩;show jj W9 109 2 _ _=jj W9 109 2 _ _;rw[NC.2.2.2.2.2.2.1];simp only[QY,o,NC.2.2.2.2.2.2.2.1,H (Kg j),M0,NC.2.2.2.2.2.2.2.2,H (BF (a:=e) (by omega)), *])
  (b:=x) (a:=v) P
 rw[HV]at u;have r:jj W9 109 2 [.n c.l,Z CG c,.n 0,x] v=jj W9 109 2 [.n c.l,Z CG c,.n c.l,k] t:=r;have o:=Dz c.l;refine Fz.Qr B B (f:=k) (d:=t) (c:=2) ?_ (Ab9 u) (by omega);rw[NC.1];simp only[↓Q];rw[p,NC.2.2.1];simp only[QY,o,NC.2.1,N];rw[r,NC.2.2.2.2.2.2.1];simp only[↓Q,↓QT,Aic,o,NC.2.2.2.2.2.1]
variable{a:G}
def ie{e f:Aa}{g:M}{b:D}{n:D->C F}(c:K)(p:a.N e=A (.I 2 (M.c g)))(u:Lv a e)(q:a.N f=A (.I 1 [m]))(v:Lv a f)(y:AF a m n 2 (List.range b)):∃j,W9 (Ar 114) [.n c,.p e 0,.p f 0] a=A (.S (M.c (if c=0 then g else DB b)),j)/\AR a j:=by
 let⟨I,E,t,s,d,o,H,x⟩:=box a (.I 2 [.i .u8 0,.n 0])
 have P:=J2 a t s;have J:=(d.N u).t p;have N:=(d.N v).t q;have w:=C4 y;rw[Aip]at w;have z:BE [(.i .u8 0),(.n 0)] [(0,1),(1,1)] [.i .u8 4,.n b]=A (.S (M.c (DB b))):=B;let⟨r,l,k,i⟩:=Ha o (if c=0 then g else DB b)
 refine⟨r,Bd B B ?_,by rw[i];exact d.G7 x _⟩;clear i;rw[jz.1];by_cases h:c=0;.rw[Af h]at l k⊢;simp only[QY, *]
 .rw[Ad h]at l k⊢;simp only[QY,jz.2, *]
def Pk(b:G)(a:Aa)(i:M)(h:Aa)(f e:F)(c g:D->F)(d:D):Prop:=b.N a=A (.I 2 (M.c i))/\Lv b a/\a≠h/\¬Ck f c g d a/\AE e a
variable{r:D->F}
def AeG{S:C (C K)}{xg:C Ak}{xc:G}{j u:Aa}{xp h:D}{d:C K}{l:Ak}{g:K}(xR:d[h]? =A g)(yd:d.l<=400){n:D}{c:C AG×C M}(yc:c.1.l=n+h)(yf:c.1.l<400){z:F}{p:D->F}(m:HW xc j c z y p r f)(xy:Pk f u (if l=L then Di else AK) j z y p r c.1.l):
  ∃o xh xw V,jj W9 70 4 [.n d.l,Z Bq d,.f (Ar 114) [.p u 0,.p j 0],Z Bq d,.n h,.n xp,.n S.l,Z CG S,Z Db xg,y,.p j 0] f=jj W9 70 4 [.n d.l,Z Bq d,.f (Ar 114) [.p u 0,.p j 0],Z Bq d,.n (h+1:D),.n xp,.n S.l,Z CG S,Z Db xg,y,.p j 0] V/\
   HW xc j (c.1++[⟨[Ed g,Fr n (h+1:D) d.l l],[]⟩],c.2) o y xh xw V/\Pk V u (if l=L then Di else AK) j o y xh xw (c.1.l+1):=by
 have xL:h<d.l:=by grind
 have x4:f.AA j 0=A z:=AJ m.B.gx 0
 have xI:=ce g
 have xX:BV .Dg [.p j 0] f z=L:=Jd m.B.gx B
 have U:AR f (f.V (.I 4 ([Ed g,AK].f M.c))):=AR.V _ _
 have xa:=k7 f (Ed g) AK
 have xA:∀e,Lv f e->AE (.Z f.next 0 2 3 2) e:=λe q=>Fe λxB=>by subst xB;exact FO f q
 have xu:=l2 f.next (Ed g) AK
 have xj:BE [.sn,.sn] [(0,1)] [.Z f.next 0 2 3 2]=A (.S [.Z f.next 0 2 3 2,.sn]):=B
 generalize yb:F.Z f.next 0 2 3 2=t at xa xA xu xj
 generalize xK:f.V (.I 4 ([Ed g,AK].f M.c))=xn at U xa
 have xx:=m.B.Av (f:=xn) P
 have yj:∀w,w=j\/Ck z p r c.1.l w->Lv f w:=λw R=>by
  rcases R with rfl|R;.exact m.B.lx
  .exact m.B.M.lv R
 let⟨o,ya,W,xV,x6,xm,v,xl⟩:=xx.add (p:=⟨[Ed g,AK],[]⟩) xa (AF.sn xn) (LG _) (λw R=>⟨P,CM w⟩) (by omega)
 have x5:W.AA j 0=A o:=AJ xm 0
 have xo:(c.1++[(⟨[Ed g,AK],[]⟩:AG)]).l=c.1.l+1:=by simp
 have xr:=C4 v.M.o
 rw[Aip,xo]at xr
 have xk:=Gu (a:=((c.1.l+1:D):K)) (b:=1) (by omega) (by omega)
 rw[show((c.1.l+1:D):K)-1=(c.1.l:K) by omega]at xk
 have xN:(c.1++[(⟨[Ed g,AK],[]⟩:AG)])[c.1.l]? =A ⟨[Ed g,AK],[]⟩:=by simp
 let⟨I,xS,_,xs,_,_⟩:=v.M.at (by grind:c.1.length<(c.1++[(⟨[Ed g,AK],[]⟩:AG)]).length)
 rw[EH]at xs
 have xG:Bt 0 [.p I (c.1.l*2)]=A (.p I (c.1.l*2)):=B
 have xW:AW W [.p I (c.1.l*2)]=A t:=xs
 have xC:=Gu (a:=(d.l:K)) (b:=1) (by omega) (by omega)
 have xD:=Gu (a:=(d.l:K)-1) (b:=(h:K)) (by omega) (by omega)
 let⟨xT,X,Y,xq,xU⟩:=xy
 have xH:=xl u (U.lv X) Y xq
 have xJ:=xH.1.t ((U.N X).t xT)
 let⟨J,xi,xb⟩:=ie ((d.l:K)-1-(h:K)) xJ P xm v.lx v.M.o
 have xP:(if(d.l:K)-1-(h:K)=0 then(if l=L then Di else AK)else DB ((c.1++[(⟨[Ed g,AK],[]⟩:AG)]).l))=Fr n (h+1:D) d.l l:=by unfold Fr;grind
 rw[xP]at xi
 have xE:Du W9 (.f (Ar 114) [.p u 0,.p j 0]) [.n ((d.l:K)-1-(h:K))] W=A (.S (M.c (Fr n (h+1:D) d.l l)),J):=xi
 have E:=v.Av (f:=J) λe q _=>⟨xb.N q,xb.lv q⟩
 have xY:BV .Dg [.p I (c.1.l*2)] J t=L:=by
  let⟨xe,yh,_,xt,_,_⟩:=E.M.at (by grind:c.1.length<(c.1++[(⟨[Ed g,AK],[]⟩:AG)]).length)
  have:xe=I:=by grind
  subst this;rw[EH]at xt;show KT (J.AA xe (c.1.l*2)) _=L;rw[xt];exact NR _
 have xZ:BV .Dg [.p j 0] J o=L:=Jd E.gx B
 let⟨xf,N,xv,_,_,x8,x9,x3,x0,x1⟩:=E.M.EY (h:=1) (x:=AK) xN B (Fr n (h+1:D) d.l l)
 rw[EH]at xv
 have x7:AZ 2 [t,.n 1]=A (.p xf (1*2)):=xv
 have yg:(c.1++[(⟨[Ed g,AK],[]⟩:AG)]).set c.1.l ⟨[Ed g,AK].set 1 (Fr n (h+1:D) d.l l),[]⟩=c.1++[⟨[Ed g,Fr n (h+1:D) d.l l],[]⟩]:=by grind
 have xz:Dn N o (Cf p c.1.l t) (Cf r c.1.l .sn) (c.1++[⟨[Ed g,Fr n (h+1:D) d.l l],[]⟩]):=by grind
 have xM:(c.1++[(⟨[Ed g,Fr n (h+1:D) d.l l],[]⟩:AG)]).l=c.1.l+1:=by simp
 have yi:Ck o (Cf p c.1.l t) (Cf r c.1.l .sn) (c.1.l+1) xf:=.j ⟨c.1.l,by omega,.i x1⟩
 have x2:=v.nx
 rw[xo]at x2
 have xd:∀e,Lv f e->e≠j->¬Ck z p r c.1.l e->N.N e=f.N e/\Lv N e/\¬Ck o (Cf p c.1.l t) (Cf r c.1.l .sn) (c.1.l+1) e:=λe q xQ xO=>by have xF:=xl e P xQ xO;have ye:=xF.2.2 P (CM e);grind
 refine⟨o,Cf p c.1.l t,Cf r c.1.l .sn,N,?_,?_,?_⟩
 .rw[Jc.2.2.2.2.2.2.2.2.1];simp only[↓Q,↓QT,(Dx xL),Jc.2.2.2.2.2.2.2.2.2.1,↓H (Y1 xR),↓Zd,↓H x4,↓xI.H B,xX,↓MP,↓YG.H B,↓H xu,↓H xj,xK,↓xV,↓H x6,↓H x5,↓H xr,↓H xk,↓H xS,↓H xG,↓H xW,↓H xC,↓H xD,↓H xE,xY,xZ,↓H x7,↓H x8,Bool.cond_true,Jc.2.2.2.2.2.2.2.2.2.2,↓H (BF (a:=h) (by omega))]
 .exact{
  B:={M:=xz,gx:=(x3 j P).t E.gx,lx:=by rw[x0];exact E.lx,nx:=by grind}
  ou:=m.ou.Av λe q T=>by have:=m.ux e T;grind
  ux:=λe T=>by have:=m.ux e T;rw[xM];exact⟨P,(xd e (m.ou.Dh T) P P).2.2⟩
  BX:=λe q=>by
   let⟨yk,yl,ym,yn,yo⟩:=m.BX e q
   grind}
 .have yp:=xd u X Y xq;exact⟨P,P,Y,P,xU⟩
def w5{e:C (C K)}{t:C Ak}{z:G}{d:Aa}{o:D}{a:C K}{c:Ak}(xA:e[o]? =A a)(xx:t[o]? =A c)(yb:o<3000000){b:C AG×C M}(yc:b.1.l+a.l<=400)(yd:b.2.l<3000000){v:F}{E N:D->F}{k:G}(m:HW z d b J v E N k):∃xh j xc xi W,jj W9 70 2 [.n e.l,Z CG e,Z Db t,.n o,v,.p d 0] k=jj W9 70 2 [.n e.l,Z CG e,Z Db t,.n (o+1:D),j,.p d 0] W/\HW z d (OU b (a,c)) xh j xc xi W:=by
 have xS:o<e.l:=by grind
 have xI:=Dx xS;have xw:=YG;have xO:=cd;let⟨l,ya,xC,xz,xG,xN,ye,Y⟩:=box k (.I 2 [.i .u8 0,.n 0])
 let⟨xd,x2,_,xs⟩:=Ha xN AK
 have xu:xd.N l=A (.I 2 (M.c AK)):=by rw[xs,AY,Af B]
 have xX:Lv xd l:=by grind
 have xp:AR k xd:=by rw[xs];exact xG.G7 Y _
 have xH:∃P,(∀v:F,jj W9 70 8 [v,.n o,.n e.l,Z CG e,Z Db t,.p d 0] k=jj W9 70 7 [.p l 0,v,Z Bq a,.n o,.n (e.l:K),Z CG e,Z Db t,.p d 0] P)/\AR k P/\P.N l=A (.I 2 (M.c (if c=L then Di else AK)))/\Lv P l:=by
  cases c with
  |true=>
   let⟨xP,x3,_,u⟩:=Ha xu Di
   refine⟨xP,λv=> ?_,by rw[u];exact xp.G7 Y _,by rw[u,AY,Af B];rfl,by grind⟩;rw[Jc.2.2.2.2.2.1];simp only[↓H (Kg xA),↓M0,↓xw.H B];rw[J2 k xC xz];simp only[QY,x2,XZ xx,Zb,xO.H B,x3]
  |false=>refine⟨xd,λv=> ?_,xp,xu,xX⟩;rw[Jc.2.2.2.2.2.1];simp only[↓H (Kg xA),↓M0,↓xw.H B];rw[J2 k xC xz];simp only[QY,H (XZ xx),Zb, *]
 let⟨P,xL,xk,xv,X⟩:=xH
 have xj:=m.B.Av (f:=P) λg p _=>⟨xk.N p,xk.lv p⟩;let⟨xQ,xt,U⟩:=ie (a.l:K) xv X xj.gx xj.lx xj.M.o
 have xU:(if(a.l:K)=0 then(if c=L then Di else AK)else DB (b.1.l))=Fr b.1.l 0 a.l c:=by
  unfold Fr;by_cases xK:(a.l:K)=0;.grind
  .have xR:(0:K)<(a.l:K):=by omega
   rw[Ad xK,Af xR,Int.add_zero]
 rw[xU]at xt;have xM:Du W9 (.f (Ar 114) [.p l 0,.p d 0]) [.n a.l] P=A (.S (M.c (Fr b.1.l 0 a.l c)),xQ):=xt;have r:=xk.AQ U;let⟨j,R,xW,x1,u,xb⟩:=GS (f:=M.c) (w:=2) (b:=Fr b.1.l 0 a.l c) (o:=.S (M.c (Fr b.1.l 0 a.l c))) (h:=16) (λ_=>B) B B (m.ou.ext r) (EI (by grind))
 have xe:∀g,g=d\/Ck J E N b.1.l g->AE v g:=λg p=>Aih λxf=>by
  have:=m.ux g xf;rcases p with rfl|p;.grind
  .grind
 have xo:AE v l:=Aih λxV=>Y (m.ou.Dh xV);have x6:HW z d (b.1,b.2++[Fr b.1.l 0 a.l c]) J j E N R:={
  B:=m.B.Av λg p S=>⟨(u.N (r.lv p) (xe g S)).t (r.N p),u.lv (r.lv p) (xe g S)⟩
  ou:=x1
  ux:=λg xf=>by
   constructor;.intro V;subst V;exact xf (xb g (r.lv m.B.lx) (xe g (.i B)))
   .intro S;exact xf (xb g (r.lv (m.B.M.lv S)) (xe g (.j S)))
  BX:=λg p=>by
   let⟨xY,xg,xZ,x0,xn⟩:=m.BX g p
   exact⟨(u.N (r.lv xg) xn).t ((r.N xg).t xY),u.lv (r.lv xg) xn,xZ,x0,xb g (r.lv xg) xn⟩}
 have x9:Pk R l (if c=L then Di else AK) d J j E N b.1.l:=⟨(u.N (U.lv X) xo).t ((U.N X).t xv),u.lv (U.lv X) xo,λV=>Y (V▸m.B.lx),λS=>Y (m.B.M.lv S),xb l (U.lv X) xo⟩;let⟨⟨xE,xr,xF⟩,xm,xl,xa,x8⟩:=Ez (h:=a.l) (f:=λq _ k=>jj W9 70 4 [.n a.l,Z Bq a,.f (Ar 114) [.p l 0,.p d 0],Z Bq a,.n q,.n o,.n e.l,Z CG e,Z Db t,j,.p d 0] k)
  (g:=λq T k=>HW z d (b.1++JL b.1.l a.l c 0 (a.t q),b.2++[Fr b.1.l 0 a.l c]) T.1 j T.2.1 T.2.2 k/\Pk k l (if c=L then Di else AK) d T.1 j T.2.1 T.2.2 (b.1.l+q))
  (λq T k xT m=>by
   let⟨x4,xD⟩:=Bo xT
   have xB:(b.1++JL b.1.l a.l c 0 (a.t q)).l=b.1.l+q:=by rw[Aio,Wm,AiH];omega
   have xq:=m.2;rw[<-xB]at xq;let⟨xh,xc,xi,W,V,x5,x7⟩:=AeG (xp:=o) (S:=e) (xg:=t) xD (by omega) (n:=b.1.l) xB (by grind) m.1 xq
   refine⟨(xh,xc,xi),W,V,?_,?_⟩;.have xy:=db b.1.l a.l c x4 (a.t q) 0;rw[Gv xD,AiH,show min q a.l=q by omega,Aix]at xy;show HW z d (b.1++JL b.1.l a.l c 0 (a.t (q+1)),b.2++[Fr b.1.l 0 a.l c]) xh j xc xi W;rw[xy,<-Ajr];grind
   .grind)
  (b:=(J,E,N)) (a:=R) (by show HW z d (b.1++JL b.1.l a.l c 0 (a.t 0),b.2++[Fr b.1.l 0 a.l c]) J j E N R/\Pk R l (if c=L then Di else AK) d J j E N (b.1.l+0);rw[Aku];show HW z d (b.1++[],b.2++[Fr b.1.l 0 a.l c]) J j E N R/\_;rw[Aiy];grind)
 have xl:jj W9 70 4 [.n a.l,Z Bq a,.f (Ar 114) [.p l 0,.p d 0],Z Bq a,.n 0,.n o,.n e.l,Z CG e,Z Db t,j,.p d 0] R=jj W9 70 4 [.n a.l,Z Bq a,.f (Ar 114) [.p l 0,.p d 0],Z Bq a,.n a.l,.n o,.n e.l,Z CG e,Z Db t,j,.p d 0] xm:=xl;have xa:HW z d (b.1++JL b.1.l a.l c 0 (a.t a.l),b.2++[Fr b.1.l 0 a.l c]) xE j xr xF xm:=xa;rw[HV]at xa;have xJ:=Dz a.l;refine⟨xE,j,xr,xF,xm,?_,xa⟩;rw[Jc.2.2.2.2.1];simp only[QY,xI,xL,Jc.2.2.2.2.2.2.2.1,xM,xW];rw[xl,Jc.2.2.2.2.2.2.2.2.1];simp only[↓Q,↓QT,Aic,xJ,Jc.2.2.2.2.2.2.1,↓H (BF (a:=o) (by omega))]
def nX(c:K->Ak):∀b:C _,b.flatten.all c=b.all λa=>a.all c
 |[]=>rfl
 |a::d=>by grind
def n9(f:G)(g:C K):NU (λb=>b=f) (Ar 110) [] g (λa=>.n a) (λa=> !JE a):=λa _ b d=>by have c:=O7 a (-1000000000) 1000000000;refine⟨b,Bd B B ?_,d⟩;show xx W9 110 [.n a] b=A (.b (!JE a),b);unfold JE;generalize BY a (-1000000000) 1000000000=e at c⊢;rw[vG];cases e<;>simp only[QY,c.H B,QB]
def uM(a:C (C K))(b:C Ak)(xH:a.l<=2000000)(xB:El a<=100000000)(d:G):((B1 a b).2.2≠0->∃k,W9 (Ar 70) [Z CG a,Z Db b] d=A (.AC [.S [.sn],.sn,.n (B1 a b).2.2],k)/\AR d k)/\
  ((B1 a b).2.2=0->∃g o q r k,W9 (Ar 70) [Z CG a,Z Db b] d=A (.AC [.S [g],o,.n 0],k)/\Dn k g q r (B1 a b).1/\AF k o M.c 2 (B1 a b).2.1/\AR d k/\
   (∀c,Lv d c->¬Ck g q r (B1 a b).1.l c/\AE o c)/\(∀c,¬AE o c->¬Ck g q r (B1 a b).1.l c)):=by
 let⟨j,P,xJ,xG,W,xa,xM,xq⟩:=box d (.I 1 [.sn])
 have V:∀(xk:F->G->R),bl (.p d.next 0) (d.V (.I 1 [.sn])) xk=xk (.p j 0) P:=Em d _ xJ xG
 have xi:P.AU j 0 1=A [.sn]:=B2 xa
 let⟨xc,xj,xh,xy⟩:=Q_ xa (b:=.sn) B
 have xu:AR d xc:=by rw[xy];exact W.G7 xq _
 have X:∀t:K,t≠0->B1 a b=([],[],t)->xx W9 70 [Z CG a,Z Db b] d=A (.AC [.S [.sn],.sn,.n t],xc)->
  ((B1 a b).2.2≠0->∃k,W9 (Ar 70) [Z CG a,Z Db b] d=A (.AC [.S [.sn],.sn,.n (B1 a b).2.2],k)/\AR d k)/\
  ((B1 a b).2.2=0->∃g o q r k,W9 (Ar 70) [Z CG a,Z Db b] d=A (.AC [.S [g],o,.n 0],k)/\Dn k g q r (B1 a b).1/\AF k o M.c 2 (B1 a b).2.1/\AR d k/\
   (∀c,Lv d c->¬Ck g q r (B1 a b).1.l c/\AE o c)/\(∀c,¬AE o c->¬Ck g q r (B1 a b).1.l c)):=λt xE xC xL=>by
  rw[xC]
  exact⟨λ_=>⟨xc,Bd B B xL,xu⟩,λy=>A_ y xE⟩
 by_cases E:a.l=b.l
 .have J:(b.l:K)=(a.l:K):=by omega
  have xb:=ta a xH xB
  have xF:=RZ a
  let⟨T,w,xz⟩:=NX f0 ja (t:=λd=>d=P) (Jt.Z (b:=Bq) (z:=1) a.flatten (w:=λj=>.n j) (y:=AW) (λ_=>B) (λ_ _=>B)) (n9 P a.flatten) (by omega) P B
  subst xz
  rw[Rz JE,nX]at w
  have xp:Ea [Z Bq a.flatten]=A (.n (El a:K)):=by rw[Ek,xF]
  cases N:a.all (λxe=>xe.all JE)with
  |false=>rw[N]at w;refine X 3 (by grind) (by unfold B1;rw[Ad (λe=>e E),N,Af B]) ?_;rw[Jc.1];simp only[↓V,↓Q,↓QT,J,Jc.2.1,↓xb.H B,↓H w,QB,↓H xi,↓H xj,↓H xh]
  |true=>
   rw[N]at w;have S:=E6 .n (El a:K) 400;by_cases xl:400<El a;.rw[Be (by omega)]at S;refine X 5 (by grind) (by unfold B1;rw[Ad (λe=>e E),N,Ad (by grind),Af xl]) ?_;rw[Jc.1];simp only[↓V,↓Q,↓QT,J,Jc.2.1,↓xb.H B,↓H w,QB,↓H xp,↓H S,↓H xi,↓H xj,↓H xh]
   .rw[Ba (by omega)]at S;unfold B1;rw[Ad (λe=>e E),N,Ad (by grind),Ad xl];refine⟨λy=>A_ B y,λ_=> ?_⟩;have xv:HW d j ([],[]) .sn .sn (λ_=>.sn) (λ_=>.sn) T:={
     B:={M:=Dn.nil _ _ _,gx:=xa,lx:=xM,nx:=FC.2 ⟨CM _,λp xd=>by grind⟩}
     ou:=AF.sn T
     ux:=λc xf=>A_ (CM c) xf
     BX:=λc u=>⟨W.N u,W.lv u,λt=>xq (t▸u),FC.2 ⟨CM _,λp xd=>by grind⟩,CM c⟩}
    let⟨⟨g,o,q,r⟩,e,Y,m⟩:=Ez (h:=a.l) (f:=λp (x:F×F×(D->F)×(D->F)) e=>jj W9 70 2 [.n (a.l:K),Z CG a,Z Db b,.n (p:K),x.2.1,.p j 0] e)
     (g:=λp x e=>HW d j (K3 ((a.zip b).t p)) x.1 x.2.1 x.2.2.1 x.2.2.2 e)
     (λp x e xd m=>by
      let⟨xe,xo⟩:=Bo xd
      let⟨y,xD⟩:=Bo (b:=b) (a:=p) (by omega)
      have xK:(a.zip b)[p]? =A (xe,y):=by grind
      let⟨xT,xU⟩:=Vs (b:=a) (c:=b) (a:=p) (by omega) E
      have w:=U2 xo;have xV:=eG (b:=a) (p+1);let⟨xs,xr,xm,xt,xn,t,xR⟩:=w5 xo xD (by omega) (by omega) (by omega) m
      refine⟨(xs,xr,xm,xt),xn,t,?_⟩;show HW d j (K3 ((a.zip b).t (p+1))) xs xr xm xt xn;rw[a2 xK];grind)
     (b:=(.sn,.sn,λ_=>.sn,λ_=>.sn)) (a:=T) xv
    have Y:jj W9 70 2 [.n (a.l:K),Z CG a,Z Db b,.n 0,.sn,.p j 0] T=jj W9 70 2 [.n (a.l:K),Z CG a,Z Db b,.n (a.l:K),o,.p j 0] e:=Y;have m:HW d j (K3 ((a.zip b).t a.l)) g o q r e:=m;rw[AiX (by grind)]at m;have xw:Ct [g]=L:=by rw[EC];simp[(CS m.B.M.o).2]
    have xZ:=m.B.gx;have U:∀c,(e.set j (.I 1 [g])).N c=e.N c:=me m.B.gx;have xQ:A1 1 e [.p j 0,.S [g]]=A (Ax,e.set j (.I 1 [g])):=Ho m.B.gx B xw;have xP:(e.set j (.I 1 [g])).AU j 0 1=A [g]:=B2 (by grind);have xN:∀c,Lv (e.set j (.I 1 [g])) c=Lv e c:=by grind
    generalize e.set j (.I 1 [g])=xA at U xQ xP xN;have xS:=Dz a.l;refine⟨g,o,q,r,xA,Bd B B ?_,m.B.M.Av λxg xI _=>⟨U xg,by grind⟩,m.ou.Av λxg xI _=>⟨U xg,by grind⟩,λc u=> ?_,λc u=> ?_,λc xf=>(m.ux c xf).2⟩;.rw[Jc.1];simp only[↓V,↓Q,↓QT,J,Jc.2.1,↓xb.H B,↓H w,QB,↓H xp,↓H S,Jc.2.2.1];rw[Y,Jc.2.2.2.2.1];simp only[QY,Jc.2.2.2.1, *]
    .let⟨xO,xW,_⟩:=m.BX c u
     exact⟨(U c).t xO,by grind⟩
    .let⟨_,_,_,xX,xY⟩:=m.BX c u
     grind
 .have J:¬b.l=(a.l:K):=by omega
  refine X 2 (by grind) (by unfold B1;rw[Af E]) ?_;rw[Jc.1];simp only[↓V,↓Q,↓QT,Aic,J,↓H xi,↓H xj,↓H xh]
def I2(a:K)(b:AS):K:=
 if(b.l.l:K)≠a\/(b.BO.l:K)≠a\/a>3 then 2
 else if(b.l.any λc=>Au ((c.l:K)>40))=L then 5 else 0
def n8(d:G)(e:C (C K)):NU (λb=>b=d) (Ar 108) [] e (λa=>Z Bq a) (λa=>Au ((a.l:K)>40)):=λa _ b c=>by have f:=E6 .n (a.l:K) 40;refine⟨b,Bd B B ?_,c⟩;show xx W9 108 [Z Bq a] b=A (.b (Au ((a.l:K)>40)),b);rw[vF];simp only[QY, *]
def uL(b:K)(a:AS)(n:a.l.l<1000000000):A2 69 [.n b,.S a.c] (.n (I2 b a)):=BP B B B (by
 let⟨v,c,o,m,s,h,t,u⟩:=box G.Az (.I 2 a.c)
 have r:=Em G.Az (.I 2 a.c) o m;have w:=h;have x:=h;let⟨l,p,k⟩:=NX pc u_ (t:=λi=>i=c) (Jt.Z (b:=CG) (z:=1) a.l (w:=λa=>Z Bq a) (y:=AW) (λ_=>B) (λ_ _=>B)) (n8 c a.l) n c B
 subst k;refine⟨l,?_⟩;unfold I2;by_cases d:a.l.l=b
 .by_cases e:a.BO.l=b
  .by_cases g:b>3;.rw[Af (.j (.j g)),Uq.1];simp only[QY, *]
   .rw[Ad (by grind),Uq.1];generalize(a.l.any λq=>Au ((q.l:K)>40))=j at p⊢;cases j<;>simp only[QY,r,d,e,g,Uq.2.1,QB,Uq.2.2,reduceIte, *]
  .rw[Af (.j (.i e)),Uq.1];simp only[QY, *]
 .rw[Af (.i d),Uq.1];simp only[QY, *])
inductive Bz where
 |E2|Bu|T|Ae|DK
 |Bw (a:D)
 |Ap (a:D)
 |AB (a:D)
 |Aw (a b:D)
 |AI (a:D)
 |A5 (a:D)
 |BS (a b:D)
 deriving DecidableEq
structure AP where
 A4:K
 AN:K
 Ao:K
 As:K
 Ap:C M
 AB:C (C M)
 AI:C K
 next:K
 A5:C (C BC)
def Tg(b:Aa->Bz)(d:F)(c:Bz):Prop:=∀a,¬AE d a->b a=c
def EX(a:D->F)(b:D):C F:=[a b]
structure Dt(e:Aa->Bz)(c:G)(d:D)(l:Aa)(a:AP)(m k g i:F)(j h:D->F):Prop where
 N:c.N l=A (.I 9 [.n a.A4,.n a.AN,.n a.Ao,.n a.As,m,k,g,.n a.next,i])
 lv:Lv c l
 Ci:e l=.Bw d
 Ap:AF c m M.c 2 a.Ap
 FS:Tg e m (.Ap d)
 AB:AF c k (EX j) 1 (List.range a.AB.l)
 JX:Tg e k (.AB d)
 Aw:∀(b:D) f,a.AB[b]? =A f->AF c (j b) M.c 2 f/\Tg e (j b) (.Aw d b)
 AI:AF c g Bq 1 a.AI
 FR:Tg e g (.AI d)
 A5:AF c i (EX h) 1 (List.range a.A5.l)
 JW:Tg e i (.A5 d)
 BS:∀(b:D) f,a.A5[b]? =A f->AF c (h b) BC.c 3 f/\Tg e (h b) (.BS d b)
def Bz.of(b:D):Bz->Prop
 | .Bw a=>a=b
 | .Ap a=>a=b
 | .AB a=>a=b
 | .Aw a _=>a=b
 | .AI a=>a=b
 | .A5 a=>a=b
 | .BS a _=>a=b
 |_=>False
def Dt.Av{m u:Aa->Bz}{j k:G}{l:D}{i:Aa}{n:AP}{s o q:F}{p:D->F}(b:Dt m j l i n t s o q r p)(d:∀a,Lv j a->(m a).of l->k.N a=j.N a/\Lv k a/\u a=m a):Dt u k l i n t s o q r p where
 N:=(d i b.lv (by rw[b.Ci];rfl)).1.t b.N
 lv:=(d i b.lv (by rw[b.Ci];rfl)).2.1
 Ci:=(d i b.lv (by rw[b.Ci];rfl)).2.2.t b.Ci
 Ap:=b.Ap.Av λa e c=>⟨(d a e (by rw[b.FS a c];rfl)).1,(d a e (by rw[b.FS a c];rfl)).2.1⟩
 FS:=λa c=>(d a (b.Ap.Dh c) (by rw[b.FS a c];rfl)).2.2.t (b.FS a c)
 AB:=b.AB.Av λa e c=>⟨(d a e (by rw[b.JX a c];rfl)).1,(d a e (by rw[b.JX a c];rfl)).2.1⟩
 JX:=λa c=>(d a (b.AB.Dh c) (by rw[b.JX a c];rfl)).2.2.t (b.JX a c)
 Aw:=λg h f=>⟨(b.Aw g h f).1.Av λa e c=>⟨(d a e (by rw[(b.Aw g h f).2 a c];rfl)).1,(d a e (by rw[(b.Aw g h f).2 a c];rfl)).2.1⟩,λa c=>(d a ((b.Aw g h f).1.Dh c) (by rw[(b.Aw g h f).2 a c];rfl)).2.2.t ((b.Aw g h f).2 a c)⟩
 AI:=b.AI.Av λa e c=>⟨(d a e (by rw[b.FR a c];rfl)).1,(d a e (by rw[b.FR a c];rfl)).2.1⟩
 FR:=λa c=>(d a (b.AI.Dh c) (by rw[b.FR a c];rfl)).2.2.t (b.FR a c)
 A5:=b.A5.Av λa e c=>⟨(d a e (by rw[b.JW a c];rfl)).1,(d a e (by rw[b.JW a c];rfl)).2.1⟩
 JW:=λa c=>(d a (b.A5.Dh c) (by rw[b.JW a c];rfl)).2.2.t (b.JW a c)
 BS:=λg h f=>⟨(b.BS g h f).1.Av λa e c=>⟨(d a e (by rw[(b.BS g h f).2 a c];rfl)).1,(d a e (by rw[(b.BS g h f).2 a c];rfl)).2.1⟩,λa c=>(d a ((b.BS g h f).1.Dh c) (by rw[(b.BS g h f).2 a c];rfl)).2.2.t ((b.BS g h f).2 a c)⟩
def Dt.ext{n:Aa->Bz}{g:G}{i:D}{b:AP}{c e:F}{j d:D->F}(o:Dt n f i l b m k c e j d)(a:AR f g):Dt n g i l b m k c e j d:=o.Av λp h _=>⟨a.N h,a.lv h,B⟩
def GX(b:AP)(a:AH):Aj M:=if a.Ao<0 then(if 0<=a.Aw then b.Ap[a.Aw.n]?else O)else(if 0<=a.Aw then(b.AB[a.Ao.n]?).b λc=>c[a.Aw.n]?else O)
variable{e:G}
def Np{xf:Aa->Bz}{Y:D}{z:Aa}{j:AP}{E R:F}{g Q:D->F}(H:Dt xf e Y z j E y J R g Q)(a:AH){l:M}(b:GX j a=A l):∃u,W9 (Ar 56) [.p z 0,.S (AH.c a)] e=A (.S (M.c l),u)/\AR e u:=by
 let⟨xm,v,W,U,n,N,xc,xl⟩:=box e (.I 2 (AH.c a))
 let⟨xn,S,X,V,p,P,xk,xd⟩:=box v (.I 2 [.i .u8 0,.n 0])
 have xt:=Em e (.I 2 (AH.c a)) W U;have xu:=J2 v X V;have m:=n.AQ p;have xe:=λxa=>xd (n.lv xa);have c:=H.ext m;have t:=(p.N xc).t N;have xh:=t;have xi:=t;have xp:=c.N;have xq:=c.N;let⟨T,xs,xo,s⟩:=Ha P l
 refine⟨T,Bd B B ?_,by rw[s];exact m.G7 xe _⟩;clear s;rw[jM.1];unfold GX at b;by_cases r:a.Ao<0
 .rw[Af r]at b;by_cases k:0<=a.Aw
  .rw[Af k]at b;let⟨h,d⟩:=Dm (f:=M.c) (w:=2) (λ_=>B) c.Ap b
   have Z:AZ 2 [E,.n a.Aw]=A (.p h (a.Aw.n*2)):=by have:=d.ia;rwa[show a.Aw.n=a.Aw by omega]at this
   have xg:=d.AU (f:=M.c) (λ_=>B) b;simp only[QY, *]
  .grind
 .rw[Ad r]at b;by_cases k:0<=a.Aw
  .rw[Af k]at b
   cases i:j.AB[a.Ao.n]?with
   |none=>rw[i]at b;cases b
   |some xb=>
    rw[i]at b;have b:=b;have x:=(Aid.1 i).1;let⟨h,d⟩:=Dm (f:=EX g) (w:=1) (λ_=>B) c.AB (Ga x)
    have Z:AZ 1 [y,.n a.Ao]=A (.p h (a.Ao.n*1)):=by have:=d.ia;rwa[show a.Ao.n=a.Ao by omega]at this
    have xr:AW S [.p h (a.Ao.n*1)]=A (g a.Ao.n):=by have:=d.AA (f:=EX g) (λ_=>B) (Ga x) (b:=0) (by grind);exact this
    let⟨I,q⟩:=Dm (f:=M.c) (w:=2) (λ_=>B) (c.Aw _ xb i).1 b
    have xj:AZ 2 [g a.Ao.n,.n a.Aw]=A (.p I (a.Aw.n*2)):=by have:=q.ia;rwa[show a.Aw.n=a.Aw by omega]at this
    have xg:=q.AU (f:=M.c) (λ_=>B) b;simp only[QY,jM.2, *]
  .grind
def KW(a:AP):C AH->Aj (C M)
 |[]=>A []
 |b::d=>match GX a b,KW a d with
  |some e,A c=>A (e::c)
  |_,_=>O
def eU{d:AP}:∀{f:C _}{c:C M},KW d f=A c->f.l=c.l/\∀{b:D}{e:AH},f[b]? =A e->∃i,GX d e=A i/\c[b]? =A i
 |[],c,a=>by cases a;grind
 |e::k,c,a=>by
  unfold KW at a
  cases h:GX d e with
  |none=>rw[h]at a;cases a
  |some i=>
   cases g:KW d k with
   |none=>rw[h,g]at a;cases a
   |some o=>
    rw[h,g]at a
    cases a
    let⟨m,n⟩:=eU g
    refine⟨by grind,λ{b}{l} j=> ?_⟩
    cases b with
    |zero=>cases j;grind
    |succ b=>grind
def iH{xs:Aa->Bz}{xl:D}{m:Aa}{T:AP}{xq xp xe xg:F}{xo xf:D->F}(xa:Dt xs e xl m T xq xp xe xg xo xf)(b:C AH){r:C M}(J:KW T b=A r)(xy:b.l<1000000):∃d u,W9 (Ar 63) [.p m 0,Z AH.c b] e=A (d,u)/\AF u d M.c 2 r/\AR e u/\EV e d:=by
 let⟨xj,xi⟩:=eU J
 let⟨d,a,z,q,o,l⟩:=Ez (h:=b.l) (f:=λk d a=>jj W9 63 2 [.n b.l,Z AH.c b,.p m 0,.n k,d] a) (g:=λk d a=>AF a d M.c 2 (r.t k)/\AR e a/\EV e d)
  (λk d a W xc=>by
   let⟨q,o,l⟩:=xc
   let⟨g,V⟩:=Bo W
   let⟨Y,J,xk⟩:=xi V
   have v:=Dx W;have xr:Bf 2 a [.pi (AH.c g)]=A (.S (AH.c g)):=B;have N:A1 2 (a.V (.I 2 [.n 0,.n 0])) [.p a.next 0,.S (AH.c g)]=A (Ax,a.V (.I 2 (AH.c g))):=FL B B;have t:AR a (a.V (.I 2 (AH.c g))):=AR.V _ _;have E:(a.V (.I 2 (AH.c g))).N a.next=A (.I 2 (AH.c g)):=by grind
   have xv:∀(S:F->G->R),bl (.p a.next 0) (a.V (.I 2 [.n 0,.n 0])) S=S (.p a.next 0) (a.V (.I 2 [.n 0,.n 0])):=λ_=>B;generalize c:a.next=j at E N;generalize a.V (.I 2 (AH.c g))=xw at t E N;have xt:=E;let⟨xx,xm,xb⟩:=Np (xa.ext (o.AQ t)) g J
   have P:=t.AQ xb;have xz:(r.t k).l<=k:=by grind
   let⟨xu,xh,xn,X,U,xd⟩:=GS (f:=M.c) (w:=2) (b:=Y) (o:=.S (M.c Y)) (h:=16) (λ_=>B) B B (q.ext P) (EI (by omega))
   rw[Gv xk]at X;have p:=o.AQ P;refine⟨xu,xh,?_,X,λj c=>⟨(U.N (p.lv c) (l j c)).t (p.N c),U.lv (p.lv c) (l j c)⟩,λj c=>xd j (p.lv c) (l j c)⟩;show jj W9 63 2 _ _=jj W9 63 2 _ _;rw[Up.2.2.1];simp only[QY,xv,v,Up.2.2.2.1,Kd V,xr,c,N,xt,xm,xn,Up.2.2.2.2,BF (a:=k) (by omega)])
  (b:=.sn) (a:=e) ⟨AF.sn e,λj c=>⟨B,c⟩,λj _=>CM j⟩
 have z:jj W9 63 2 [.n b.l,Z AH.c b,.p m 0,.n 0,.sn] e=jj W9 63 2 [.n b.l,Z AH.c b,.p m 0,.n b.l,d] a:=z;have v:=Dz b.l;rw[xj,HV]at q;refine⟨d,a,Bd B B ?_,q,o,l⟩;rw[Up.1];simp only[↓H (Ek AH.c b)];rw[z,Up.2.2.1];simp only[↓Q,↓QT,Aic,v,Up.2.1]
def n_{z:Aa->Bz}{v:D}{k f:Aa}{i:AP}{x n s:F}{w q:D->F}(l:Dt z a v k i y x n s w q)(r:a.N f=A (.I 1 [.p k 0]))(j:Lv a f)(c:AH){g:M}(u:GX i c=A g)(b:AR a e):∃h,W9 (Ar 118) [.S (AH.c c),.p f 0] e=A (.b (!Au (g.Ai=0)),h)/\AR a h:=by
 let⟨Q,E,I,H,d,p,N,P⟩:=box e (.I 2 (AH.c c))
 have S:=(d.N (b.lv j)).t ((b.N j).t r);have R:=p;let⟨t,J,m⟩:=Np (l.ext (b.AQ d)) c u
 have o:=Nq g;refine⟨t,Bd B B ?_,b.AQ (d.AQ m)⟩;rw[vN];simp only[QY,o.H B, *]
def oe{E:Aa->Bz}{w:D}{i:AP}{z p:F}{x:D->F}(m:Dt E a w l i z y p t x r)(s:a.N g=A (.I 1 [.p l 0]))(k:Lv a g)(c:AH){d:M}(v:GX i c=A d)(b:AR a f):∃h,W9 (Ar 119) [.S (AH.c c),.p g 0] f=A (.b (Au (d.Ai=0)),h)/\AR a h:=by
 let⟨R,H,J,I,e,q,P,Q⟩:=box f (.I 2 (AH.c c))
 have T:=(e.N (b.lv k)).t ((b.N k).t s);have S:=q;let⟨u,N,n⟩:=Np (m.ext (b.AQ e)) c v
 have j:=Nq d;refine⟨u,Bd B B ?_,b.AQ (e.AQ n)⟩;generalize Au (d.Ai=0)=o at j⊢;rw[vO];cases o<;>simp only[QY,j.H B,QB, *]
def Gd(a:AP)(b:AH):Ak:= !Au (((GX a b).g AK).Ai=0)
def FB(b:AP)(a:AD)(d:K):Ak:=
 if d>0 then Ac
 else if a.op=8\/a.op=9 then(match a.AT with|c::_=>Gd b c|[]=>Ac)
 else if a.op=6 then a.AT.any (Gd b)
 else a.AT.all (Gd b)
def AeT{xe:Aa->Bz}{c:G}{Y:D}{J f t:Aa}{d:AP}{xd xc U W:F}{xb V:D->F}(n:Dt xe c Y J d xd xc U W xb V){b:AD}(q:c.N f=A (.I 1 [.p J 0]))(I:Lv c f)(y:c.N t=A (.I 4 (AD.c b)))(xk:Lv c t)(xi:b.AT.l<1000000)(e:∀a∈b.AT,∃l,GX d a=A l)(xh:b.op=8\/b.op=9->b.AT≠[])(w:K)(X:¬w>0):∃z,jj W9 72 3 [.p t 0,.p f 0] c=A (.b (FB d b w),z)/\AR c z:=by
 have M:=y;have N:=y;have Q:=q;unfold FB;rw[Ad X];have R:U9 (AR c) (Ar 118) [.p f 0] b.AT (Gd d):=λa r u o=>by
  let⟨l,e⟩:=e a r
  let⟨m,xa,p⟩:=n_ n q I a e o
  refine⟨m,?_,p⟩;unfold Gd;rw[e];grind
 have S:U9 (AR c) (Ar 119) [.p f 0] b.AT (λa=> !Gd d a):=λa r u o=>by
  let⟨l,e⟩:=e a r
  let⟨m,xa,p⟩:=oe n q I a e o
  refine⟨m,?_,p⟩;show W9 (Ar 119) [.S (AH.c a),.p f 0] u=A (.b (!Gd d a),m);unfold Gd;rw[e,Bool.not_not];grind
 by_cases g:b.op=8\/b.op=9
 .rw[Af g]
  cases xj:b.AT with
  |nil=>grind
  |cons a xl=>
   let⟨l,E⟩:=e a (by grind)
   let⟨h,j,k⟩:=Np n a E
   have x:=Nq l;have H:AZ 2 [Z AH.c b.AT,.n 0]=A (.pi (AH.c a)):=Kd (a:=0) (by grind);have P:Bf 2 c [.pi (AH.c a)]=A (.S (AH.c a)):=B;refine⟨h,?_,k⟩;show _=A (F.b (Gd d a),h);unfold Gd;rw[E,Ob.2.1];rcases g with g|g;.simp only[QY,M,g,Ob.2.2.2,Q,N,H,P,j,x.H B];rfl
   .simp only[QY,Int.reduceEq,M,g,Ob.2.2.2,Q,N,H,P,j,x.H B];rfl
 .rw[Ad g];have xf:¬b.op=8:=by grind
  have xg:¬b.op=9:=by grind
  by_cases v:b.op=6
  .rw[Af v];let⟨h,j,k⟩:=aG R (by omega) c (λf s=>⟨B,s⟩)
   refine⟨h,?_,k⟩;rw[Ob.2.1];simp only[QY,Int.reduceEq,Ob.2.2.2, *]
  .rw[Ad v];let⟨h,j,k⟩:=aG S (by omega) c (λf s=>⟨B,s⟩)
   rw[Rz (Gd d)]at j;generalize b.AT.all (Gd d)=T at j⊢;refine⟨h,?_,k⟩;rw[Ob.2.1];cases T<;>simp only[QY,Ob.2.2.2,Ob.2.2.1,QB, *]
def uN{xB:Aa->Bz}{d:G}{xw:D}{q c:Aa}{g:AP}{xA xz N xm:F}{xy xl:D->F}(xh:Dt xB d xw c g xA xz N xm xy xl){n:C Ab}{xD:C F}(xn:d.N q=A (.I 6 (Z Ab.c n::xD)))(xx:Lv d q){J m:D}{e:Ab}{b:AD}{j:K}(xq:g.A4=J)(xr:n[J]? =A e)(T:e.Ay[m]? =A b)(S:g.AI[m]? =A j)(xt:b.AT.l<1000000)(xv:∀xk∈b.AT,∃xC,GX g xk=A xC)(xp:b.op=8\/b.op=9->b.AT≠[]):∃P,W9 (Ar 72) [.p q 0,.p c 0,.n m] d=A (.b (FB g b j),P)/\AR d P:=by
 let⟨z,a,xu,xs,s,u,x,xF⟩:=box d (.I 1 [.p c 0])
 have xf:∀(i:F->G->R),bl (.p d.next 0) (d.V (.I (BK (F.I (.p c 0))) (F.I (.p c 0)))) i=i (.p z 0) a:=Em d (.I 1 [.p c 0]) xu xs;have E:=xh.ext s;have xe:a.AA q 0=A (Z Ab.c n):=AJ ((s.N xx).t xn) 0;have xb:a.AA z 0=A (.p c 0):=AJ u 0;have xa:a.AA c 0=A (.n g.A4):=AJ E.N 0;have V:AZ 5 [Z Ab.c n,.n g.A4]=A (.pi (Ab.c e)):=by rw[xq];exact Da xr
 have M:Bt 2 [.pi (Ab.c e)]=A (.pi ((Ab.c e).d 2)):=B;have X:AW a [.pi ((Ab.c e).d 2)]=A (Z AD.c e.Ay):=B;have W:Bf 4 a [.pi (AD.c b)]=A (.S (AD.c b)):=B;have p:A1 4 (a.V (.I 4 [.i .u8 0,.s [],.n 0,.sn])) [.p a.next 0,.S (AD.c b)]=A (Ax,a.V (.I 4 (AD.c b))):=FL B B;have h:AR a (a.V (.I 4 (AD.c b))):=AR.V _ _;have v:(a.V (.I 4 (AD.c b))).N a.next=A (.I 4 (AD.c b)):=by grind
 have y:Lv (a.V (.I 4 (AD.c b))) a.next:=by grind
 have xg:∀(i:F->G->R),bl (.p a.next 0) (a.V (.I 4 [.i .u8 0,.s [],.n 0,.sn])) i=i (.p a.next 0) (a.V (.I 4 [.i .u8 0,.s [],.n 0,.sn])):=λ_=>B;generalize U:a.next=xG at v y p;generalize a.V (.I 4 (AD.c b))=k at h v y p;have r:=E.ext h;have xc:k.AA z 0=A (.p c 0):=AJ ((h.N x).t u) 0;have Y:k.AA c 6=A N:=AJ r.N 6;let⟨xj,t⟩:=Dm (f:=Bq) (w:=1) (λ_=>B) r.AI S
 have xd:AW k [.p xj (m*1)]=A (.n j):=by have:=t.AA (f:=Bq) (λ_=>B) S (b:=0) (by grind);exact this
 have I:=s.AQ h;by_cases l:j>0;.refine⟨k,Bd B B ?_,I⟩;unfold FB;rw[Af l,Ob.1];simp only[↓xf,↓xg,↓H M,↓H X,↓Q,↓QT,↓H xe,↓H xb,↓H xa,↓H V,↓H (Gq T),↓H W,U,↓H p,↓H xc,↓H Y,↓H t.ia,↓H xd,l]
 .let⟨xo,xE,xi⟩:=AeT r ((h.N x).t u) (h.lv x) v y xt xv xp j l
  refine⟨xo,Bd B B ?_,I.AQ xi⟩;rw[Ob.1];simp only[↓xf,↓xg,↓H M,↓H X,↓Q,↓QT,Aic,↓H xe,↓H xb,↓H xa,↓H V,↓H (Gq T),↓H W,U,↓H p,↓H xc,↓H Y,↓H t.ia,↓H xd,l];grind
structure Ah where
 T:C AP
 Ae:C AG
 round:K
 Aq:K
structure Ly where
 r:Aa
 cv:F
 mv:F
 cs:D->F
 ws:D->F
 pc:D->Aa
 pv:D->F
 ov:D->F
 fv:D->F
 gv:D->F
 og:D->D->F
 gg:D->D->F
def US(b:D->Aa)(a:D):C F:=[.p (b a) 0]
structure EU(e:Aa->Bz)(c:G)(k:C Ab)(i:C BL)(j:D)(f:Aa)(d:Ah)(a:Ly):Prop where
 N:c.N f=A (.I 6 [Z Ab.c k,.m a.r,a.cv,a.mv,.n d.round,.n d.Aq])
 lv:Lv c f
 Ci:e f=.E2
 Bu:c.N a.r=A (.Bu i j)
 Hj:Lv c a.r
 Gw:e a.r=.Bu
 T:AF c a.cv (US a.pc) 1 (List.range d.T.l)
 IS:Tg e a.cv .T
 Ae:Dn c a.mv a.cs a.ws d.Ae
 IT:∀h,Ck a.mv a.cs a.ws d.Ae.l h->e h=.Ae
 Bw:∀(b:D) g,d.T[b]? =A g->Dt e c b (a.pc b) g (a.pv b) (a.ov b) (a.fv b) (a.gv b) (a.og b) (a.gg b)
def EU.Av{j:Aa->Bz}{h i:G}{n:C Ab}{k:C BL}{m:D}{e:Ah}{f:Ly}(a:EU j h n k m g e f)(c:∀b,Lv h b->j b≠.DK->i.N b=h.N b/\Lv i b):EU j i n k m g e f where
 N:=(c g a.lv (by rw[a.Ci];decide)).1.t a.N
 lv:=(c g a.lv (by rw[a.Ci];decide)).2
 Ci:=a.Ci
 Bu:=(c f.r a.Hj (by rw[a.Gw];decide)).1.t a.Bu
 Hj:=(c f.r a.Hj (by rw[a.Gw];decide)).2
 Gw:=a.Gw
 T:=a.T.Av λb d s=>c b d (by rw[a.IS b s];decide)
 IS:=a.IS
 Ae:=a.Ae.Av λb d q=>c b d (by rw[a.IT b q];decide)
 IT:=a.IT
 Bw:=λr o p=>(a.Bw r o p).Av λb d l=>by have:=c b d (by intro e;rw[e]at l;exact l);exact⟨this.1,this.2,B⟩
def EU.ext{i:Aa->Bz}{d:G}{h:C Ab}{c:C BL}{g:D}{k:Aa}{b:Ah}{j:Ly}(l:EU i d h c g k b j)(a:AR d e):EU i e h c g k b j:=l.Av λm f _=>⟨a.N f,a.lv f⟩
