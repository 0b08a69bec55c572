/- Part of the proof. -/
import Derived.Test.YtbmnfifnenajjaaGreatNbd
set_option linter.all false
noncomputable section
open Option renaming some->A,none->O,bind->Option.b
open _root_ renaming rfl->B,List->C,Nat->D,Int->K,if_neg->Ad,if_pos->Af,Option->Ae,Bool->Ah,cond->Aj,decide_eq_true->A0,decide_eq_false->A2
open Bool renaming true->L,false->Aa
open Decidable renaming decide->Ao
open Nat renaming beq->AW,ble->BX,le_refl->CK
open List renaming replicate->BG,length->List.l,map->List.m,take->List.t,drop->List.d,toArray->List.a,flatMap->List.f
open Go.IntKind renaming i64->Go.IntKind.n
open Array renaming toList->Array.l
open Eq renaming trans->Eq.t,symm->Eq.s
open Or renaming inl->Or.i,inr->Or.j
open Int renaming toNat->Int.n
namespace Go.Proofs.YtbmnfifnenajjaaGreat
open Go.Fg
def NP(g:T)(e d:F)(b f:D->F)(c:D)(a:T):Prop:=a=g\/B8 e b f c a\/¬As d a
variable{k l:F}
def Ff.Ar{i:C _}{n:C Bz}{c:T}{e m:D->F}{f g:G}(a:Ff i n c l k e m f)(d:∀b,Lv f b->NP c l k e m i.l b->g.M b=f.M b/\Lv g b):Ff i n c l k e m g where
 M:=a.M.Ar λj h o=>d j h (.j (.i o))
 ot:=a.ot.Ar λj h p=>d j h (.j (.j p))
 gx:=(d c a.lx (.i B)).1.t a.gx
 lx:=(d c a.lx (.i B)).2
 nx:=a.nx
 tx:=a.tx
 tm:=a.tm
variable{b c:G}
def Ff.ext{d:C _}{f:C Bz}{i:T}{g e:F}{a h:D->F}(j:Ff d f i g e a h b)(k:AH b c):Ff d f i g e a h c:=j.Ar λm l _=>k m l
variable{d:G}
def Ff.t0{e:C _}{k:C Bz}{j:T}{h g:F}{c i:D->F}(b:Ff e k j h g c i d){f:T}(a:NP j h g c i e.l f):Lv d f:=by
 rcases a with rfl|a|a;.exact b.lx
 .exact b.M.lv a
 .exact b.ot.Cz a
def box(a:G)(d:BV):∃c b,a.next=c/\a.V d=b/\AH a b/\b.M c=A d/\Lv b c/\¬Lv a c:=⟨_,_,B,B,AH.V _ _,HM _ _,E9 _ _,EX _⟩
variable{e:T}
def Ko(a:G)(c:N)(g:a.next=e)(f:a.V (.I 2 (N.c c))=d)(b:F->G->R):bl (.p a.next 0) (a.V (.I (Bq (F.I (.S (N.c c)))) (F.I (.S (N.c c))))) b=b (.p e 0) d:=Dy a _ g f b
def Jp(a:G){d:T}(f:a.next=d)(e:a.V (.I 2 [.i .u8 0,.n 0])=c)(b:F->G->R):bl (.p a.next 0) (a.V (.I 2 [.i .u8 0,.n 0])) b=b (.p d 0) c:=Dy a _ f e b
variable{n:D->F}
def AiN{g:C AE}(xt:EW g){xD:C Bz}{t:T}{J xC:F}{xE:D->F}{j:G}(xi:Ff g xD t J xC n xE j)(d c:N)(xd:Kd g d):(G0 g d c=Aa->∃o,W9 (pos 259) [.p t 0,.S (N.c d),.S (N.c c)] j=A (.pn,o)/\AH j o)/\(G0 g d c=L->∃(e i:D)(h:AE)(u:N)(U:T)(o:G),d.n=e/\g[e]? =A h/\c.n=i/\h.I[i]? =A u/\O8 g d c=u/\Iq g d.n=A h/\AR 2 [n e,.n i]=A (.p U (i*2))/\W9 (pos 259) [.p t 0,.S (N.c d),.S (N.c c)] j=A (.p U (i*2),o)/\AH j o):=by
 let⟨xM,xa,xu,xr,xh,xm,xy,_⟩:=box j (.I 2 (N.c d))
 let⟨xN,k,xv,xs,M,Z,xL,_⟩:=box xa (.I 2 (N.c c))
 have xF:=Ko j d xu xr;have xG:=Ko xa c xv xs;have l:=xh.AI M;have v:=xi.ext l;have Y:=(M.M xy).t xm;have P:=Ay Y 0;have R:=Ay Y 1;have V:=Ay Z 0;have W:=Ay Z 1;have xg:k.Ap t 0=A J:=Ay v.gx 0;by_cases q:d.Ak=4
 .by_cases y:c.Ak=1
  .let⟨h,E⟩:=xd q
   let⟨e,xn,s⟩:=Mt E
   have xo:e<g.l:=by grind
   have xJ:=xt.at s;let⟨m,xK,_,I,_,_⟩:=v.M.at xo
   have xw:AR 2 [J,.n d.n]=A (.p m (e*2)):=by grind
   have xl:Bl 0 [.p m (e*2)]=A (.p m (e*2)):=B;have xz:AM k [.p m (e*2)]=A (n e):=I;have xf:=v.M.c e h s;have xA:=Cp xf;have xk:=FA (a:=h.I.l) (b:=1) (by omega) (by omega);have r:=N9 c.n 0 (h.I.l-1);have p:G0 g d c=BK c.n 0 (h.I.l-1):=by unfold G0 Sb;rw[E,A0 q,A0 y];rfl
   have xB:k.Ap m (e*2)=A (n e):=I;rw[p];constructor;.intro z;rw[z]at r;refine⟨k,AZ B B ?_,l⟩;rw[UY.1];simp only[QY,r.H B,QB, *]
   .intro z;have xq:G0 g d c=L:=by grind
    let⟨x,i,xO,u,xH,xc,xb,xe,xp,_,_,xI⟩:=Sw xd xq
    have:x=e:=by omega
    subst this;rw[s]at xc;cases xc;rw[z]at r;let⟨X,S⟩:=CD (f:=N.c) (w:=2) (λ_=>B) xf xe
    have xx:AR 2 [n x,.n c.n]=A (.p X (i*2)):=by rw[xb];exact S.ia
    refine⟨x,i,h,u,X,k,xn,s,xb,xe,xp,E,S.ia,AZ B B ?_,l⟩;rw[UY.1];simp only[↓xF,↓xG,↓Q,↓QT,AdM,↓H P,↓H V,q,y,↓H W,↓H xg,↓H R,↓H xw,↓H xl,↓H xz,↓H xA,↓H xk,↓r.H B,QS,QB,↓Lq,↓Up,P,R,V,W,xg,xB,I,UY.2,↓H xx]
  .have p:G0 g d c=Aa:=by unfold G0;rw[A2 y,AeO,Bool.and_false]
   rw[p];refine⟨λ_=>⟨k,AZ B B ?_,l⟩,λxj=>by grind⟩;rw[UY.1];simp only[QY,QB, *]
 .have p:G0 g d c=Aa:=by unfold G0;rw[A2 q,AeO]
  rw[p];refine⟨λ_=>⟨k,AZ B B ?_,l⟩,λxj=>by grind⟩;rw[UY.1];simp only[QY,QB, *]
def AH.Gw{a:G}(e:AH a b){c:T}(g:¬Lv a c)(d:BV):AH a (b.set c d):=λh f=>⟨by rw[AN,Ad P];grind,by grind⟩
def Gy{a:T}{f:C F}(e:b.M a=A (.I 2 f))(d:N):∃c,AX 2 b [.p a 0,.S (N.c d)]=A (AC,c)/\c.AL a 0 2=A (N.c d)/\c=b.set a (.I 2 (N.c d)):=⟨_,Gb e B B,BB (by rw[AN,Af B]),B⟩
def qa{c:C AE}(xd:EW c){X:C Bz}{t:T}{Y W:F}{w Z:D->F}(v:Ff c X t Y W w Z b)(a:N)(Q:Kd c a):∃o,W9 (pos 230) [.p t 0,.S (N.c a)] b=A (.S (N.c (L2 c a)),o)/\AH b o:=by
 let⟨xj,p,M,H,j,x,S,xi⟩:=box b (.I 2 (N.c a))
 let⟨xk,xb,P,I,k,z,xf,U⟩:=box p (.I 2 [.i .u8 0,.n 0])
 have xn:=Ko b a M H;have xo:=Jp p P I;have i:=j.AI k;have g:=v.ext i;have y:=(k.M S).t x;have xl:=y;have xm:=g.gx;let⟨q,f,e,n⟩:=Gy z (L2 c a)
 have u:AH b q:=by rw[n];exact i.Gw (λR=>U (j.lv R)) _
 refine⟨q,AZ B B ?_,u⟩;clear n;unfold L2 at f e⊢;by_cases h:a.Ak=4
 .let⟨s,r⟩:=Q h
  let⟨d,xc,J⟩:=Mt r
  have E:d<c.l:=by grind
  let⟨l,xe,_,V,_,_⟩:=g.M.at E
  have xa:Bl 0 [.p l (d*2)]=A (.p l (d*2)):=B;have xg:=V;have xh:=Cp (g.M.c d s J);rw[Ad (by grind),Af h,r]at f e⊢;rw[Xu.1];simp only[QY,(ab s.I.l).H B, *]
 .by_cases m:a.Ak=5;.rw[Af m]at f e⊢;rw[Xu.1];simp only[QY,Int.reduceEq, *]
  .rw[Ad m,Ad h]at f e⊢;rw[Xu.1];simp only[QY,Xu.2,(N_ 5).H B, *]
def VF:∀{h:C _}{c:D}{d:AE},h[c]? =A d->∀b:AE,BH (h.set c b)+d.AV.l=BH h+b.AV.l
 |[],c,d,g,_=>by grind
 |f::e,0,d,g,b=>by
  cases g
  show b.AV.l+BH e+f.AV.l=f.AV.l+BH e+b.AV.l;omega
 |f::e,c+1,d,g,b=>by show f.AV.l+BH (e.set c b)+d.AV.l=f.AV.l+BH e+b.AV.l;have:=VF (h:=e) (c:=c) (by simpa using g) b;omega
structure IU(b:G)(d:T)(k i:F)(e m:D->F)(g:D)(c:G)(l j:F)(f n:D->F)(h:D):Prop where
 fr:∀a,Lv b a->¬NP d k i e m g a->c.M a=b.M a/\Lv c a/\¬NP d l j f n h a
def IU.ext{h:T}{f e:F}{a g:D->F}{d:D}(i:AH b c):IU b h f e a g d c f e a g d:=⟨P⟩
theorem Zy(a:T)(b:D):Gq L [.p a b,.pn]=A (.b L):=rfl
theorem So:Gq L [.pn,.pn]=A (.b Aa):=rfl
theorem eW(a:T)(b:D):Gq Aa [.p a b,.pn]=A (.b Aa):=rfl
theorem nP:Gq Aa [.pn,.pn]=A (.b L):=rfl
variable{p:F}{r:G}
def p_{c:C AE}(x2:EW c)(yY:BH c<=6000){xN:C Bz}{k:T}{q:F}{I y:D->F}(s:Ff c xN k p q I y r)(h d:N)(g:K)(x3:Kd c h):∃xq xm xr xa,W9 (pos 229) [.p k 0,.S (N.c h),.S (N.c d),.n g] r=A (.AB [.S (N.c (Eb c h d g).2.1),.n (Eb c h d g).2.2],xa)/\Ff (Eb c h d g).1 xN k xq q xm xr xa/\IU r k p q I y c.l xa xq q xm xr (Eb c h d g).1.l:=by
 let⟨yK,xy,yw,yt,xO,yn,xJ,y4⟩:=box r (.I 2 (N.c h))
 let⟨yL,xz,yx,yu,xk,yo,x9,y5⟩:=box xy (.I 2 (N.c d))
 let⟨xd,x0,yy,yv,xe,xX,xL,yJ⟩:=box xz (.I 2 [.i .u8 0,.n 0])
 have U:=Ko r h yw yt
 have V:=Ko xy d yx yu
 have W:=Jp xz yy yv
 have xs:=xO.AI (xk.AI xe)
 have ya:=λxc=>yJ (xk.lv (xO.lv xc))
 have xQ:=s.ext xs
 have xv:=((xk.AI xe).M xJ).t yn
 have xw:=(xe.M x9).t yo
 have x8:=(xk.AI xe).lv xJ
 have xK:=xe.lv x9
 let⟨yD,yE⟩:=AiN x2 xQ h d x3
 have J:∀{t:G}(j:AH x0 t)(xi:N)(l:K),(∀n,AX 2 t [.p xd 0,.S (N.c xi)]=A (AC,n)->n.AL xd 0 2=A (N.c xi)->xx W9 229 [.p k 0,.S (N.c h),.S (N.c d),.n g] r=A (.AB [.S (N.c xi),.n l],n))->Eb c h d g=(c,xi,l)->∃xq xm xr xa,W9 (pos 229) [.p k 0,.S (N.c h),.S (N.c d),.n g] r=A (.AB [.S (N.c (Eb c h d g).2.1),.n (Eb c h d g).2.2],xa)/\Ff (Eb c h d g).1 xN k xq q xm xr xa/\IU r k p q I y c.l xa xq q xm xr (Eb c h d g).1.l:=λj xi l xc yl=>by
  let⟨n,x,u,yi⟩:=Gy ((j.M xL).t xX) xi
  have xP:AH r n:=by rw[yi];exact(xs.AI j).Gw ya _
  rw[yl];exact⟨p,I,y,n,AZ B B (xc n x u),s.ext xP,IU.ext xP⟩
 cases xl:G0 c h d with
 |false=>
  let⟨t,xW,j⟩:=yD xl
  have yU:=Ay ((j.M x8).t xv) 0;have yV:=Ay ((j.M xK).t xw) 0;have y8:=BB ((j.M x8).t xv);have y9:=BB ((j.M xK).t xw);have ye:=xs.AI j;have z:=Xd h;have Y:=Xd d;have xT:=N_ 3;have xU:=N_ 5;by_cases E:h.Ak=5;.refine J j h 0 (λn x u=> ?_) (by unfold Eb;rw[Af E]);rw[A0 E]at z;rw[KC.1];simp only[QY,U,V,W,So,QB,z.H B, *]
  rw[A2 E]at z;by_cases Z:d.Ak=5;.refine J j d 0 (λn x u=> ?_) (by unfold Eb;rw[Ad E,Af Z]);rw[A0 Z]at Y;rw[KC.1];simp only[QY,U,V,W,So,QB,z.H B,Y.H B, *]
  rw[A2 Z]at Y;by_cases xg:h.Ak=3;.refine J j (Ed 3) 0 (λn x u=> ?_) (by unfold Eb;rw[Ad E,Ad Z,Af xg]);rw[KC.1];simp only[QY,U,V,W,So,QB,z.H B,Y.H B,xg,KC.2.2,xT.H B, *]
  by_cases xu:h.Ak=4
  .by_cases xD:d.Ak=1;.refine J j (Ed 3) 0 (λn x u=> ?_) (by unfold Eb;rw[Ad E,Ad Z,Ad xg,Ad (by grind),Af xl]);rw[KC.1];simp only[QY,U,V,W,Int.reduceEq,So,QB,z.H B,Y.H B,xu,xD,KC.2.2,xT.H B, *]
   .refine J j (Ed 5) 0 (λn x u=> ?_) (by unfold Eb;rw[Ad E,Ad Z,Ad xg,Af (Or.inr xD)]);rw[KC.1];simp only[QY,U,V,W,Int.reduceEq,So,QB,z.H B,Y.H B,xu,xD,KC.2.2,KC.2.1,xU.H B, *]
  .refine J j (Ed 5) 0 (λn x u=> ?_) (by unfold Eb;rw[Ad E,Ad Z,Ad xg,Af (Or.inl xu)]);rw[KC.1];simp only[QY,U,V,W,Int.reduceEq,So,QB,z.H B,Y.H B,xg,xu,KC.2.2,KC.2.1,xU.H B, *]
 |true=>
  let⟨m,xc,i,xj,yg,t,yr,xp,yX,x4,ys,yA,yB,xW,j⟩:=yE xl
  let⟨_,_,_,_,_,_,_,_,_,y2,y1,_⟩:=Sw x3 xl
  have yW:m<c.l:=by grind
  have yZ:=x2.at xp;have X:=xQ.ext j;have ye:=xs.AI j;have R:Eb c h d g=if xj.Ak≠0 then(c,xj,0)else if 6000<=BH c then(c,AO,5)else(Ke c h.n (λi=>⟨i.I,i.AV++[⟨d.n,g⟩]⟩),AO,0):=by unfold Eb;rw[Ad (by grind),Ad (by grind),Ad (by grind),Ad (by grind),xl,Ad (by grind),ys]
  let⟨xS,xR⟩:=CD (f:=N.c) (w:=2) (λ_=>B) (X.M.c m i xp) x4
  have:xS=yg:=by have:=xR.ia;rw[yB]at this;cases this;rfl
  subst this;have yP:t.AL xS (xc*2) 2=A (N.c xj):=xR.AL (f:=N.c) (λ_=>B) x4;have xn:=UB xj;by_cases xE:xj.Ak=0
  .rw[A0 xE]at xn;rw[Ad Om]at R;have yT:t.Ap k 1=A (.n (BH c)):=Ay X.gx 1;have yS:t.Ap k 0=A p:=Ay X.gx 0;have xG:=Ch .n (BH c) 6000;by_cases xV:6000<=BH c;.rw[A0 Om]at xG;rw[Af xV]at R;refine J j AO 5 (λn x u=> ?_) R;rw[KC.1];simp only[QY,Zy _ _,QB,xn.H B,QE, *]
   .rw[A2 Om]at xG;rw[Ad xV]at R;have yz:(Ke c h.n λi=>⟨i.I,i.AV++[⟨d.n,g⟩]⟩)=c.set m ⟨i.I,i.AV++[⟨d.n,g⟩]⟩:=by unfold Ke;rw[yA];simp only[];rw[yr];rfl
    rw[yz]at R;rw[R];let⟨yc,xt,n,xb,yF,y0,yO,yQ,yf,x5⟩:=X.M.dk xp (by omega) ⟨d.n,g⟩
    have x7:=x5 k X.lx X.nx;have xY:=x7.2.2.1.t X.gx;have xF:=F2 (a:=(BH c)) (b:=1) (by omega) (by omega);have yq:BH (c.set m ⟨i.I,i.AV++[⟨d.n,g⟩]⟩)=BH c+1:=by have:=VF xp ⟨i.I,i.AV++[⟨d.n,g⟩]⟩;rw[AdY]at this;simp only[AeE]at this;omega
    rw[show(BH c)+1=(BH (c.set m ⟨i.I,i.AV++[⟨d.n,g⟩]⟩):K) by omega]at xF;have xB:=Gx (d:=1) (a:=.n (BH (c.set m ⟨i.I,i.AV++[⟨d.n,g⟩]⟩))) xY (by omega) (by omega) B B;rw[(Ta _ _ _ _).2.1]at xB;generalize BH (c.set m ⟨i.I,i.AV++[⟨d.n,g⟩]⟩)=xf at yq xF xB;have yh:t.Ap yL 1=A (.n d.n):=Ay ((j.M xK).t xw) 1;have yC:AR 2 [p,.n h.n]=A (.p xt (m*2)):=by grind
    have ym:Bl 1 [.p xt (m*2)]=A (.p xt (m*2+1)):=B;have yH:AM t [.p xt (m*2+1)]=A (y m):=yO;have yk:Cb [(.n 0),(.n 0)] [(0,1),(1,1)] [.n d.n,.n g]=A (.S (BJ.c ⟨d.n,g⟩)):=B;have yG:=j.lv xL;have yM:¬B8 p I y c.l xd:=λxc=>ya (s.M.lv xc);have x6:=x5 xd yG yM;have yd:k≠xd:=by grind
    have xM:∀e,e≠k->(xb.set k (.I 3 [p,.n xf,q])).M e=xb.M e:=λe S=>by rw[AN,Ad S]
    have xZ:(xb.set k (.I 3 [p,.n xf,q])).M k=A (.I 3 [p,.n xf,q]):=by rw[AN,Af B]
    have yI:∀e,Lv (xb.set k (.I 3 [p,.n xf,q])) e=Lv xb e:=by grind
    generalize xb.set k (.I 3 [p,.n xf,q])=x1 at xB xM xZ yI;have yp:=(xM xd (λl=>yd l.s)).t (x6.2.2.1.t ((j.M xL).t xX));let⟨xo,yR,yN,yj⟩:=Gy yp AO
    have yb:∀e,e≠xd->xo.M e=x1.M e:=λe S=>by rw[yj,AN,Ad S]
    have y3:∀e,Lv xo e=Lv x1 e:=by grind
    have xH:(c.set m ⟨i.I,i.AV++[⟨d.n,g⟩]⟩).l=c.l:=by grind
    have xC:∀e,Lv r e->¬B8 p I y c.l e->e≠k->xo.M e=r.M e/\Lv xo e/\¬B8 p I (BW y m yc) c.l e:=by grind
    have y6:=x6.2.2.2.2;have y7:=x7.2.2.2.2;refine⟨p,I,BW y m yc,xo,AZ B B ?_,?_,⟨λe S xI=> ?_⟩⟩;.rw[KC.1];simp only[↓U,↓V,↓W,↓Q,↓QT,AdM,↓H (BB xv),↓H (BB xw),↓H xW,↓H (Zy _ _),QB,↓H yP,↓xn.H B,↓H yT,↓H xG,↓H yS,↓H (Ay ((j.M ((xk.AI xe).lv xJ)).t xv) 1:t.Ap yK 1=A (.n h.n)),↓H yC,↓H ym,↓H yH,↓H yh,↓H yk,↓yF,↓H yQ,↓H (Ay xY 1:xb.Ap k 1=A (.n (BH c))),↓H xF,↓H xB,↓Xa.H B,↓H yR,↓H yN]
    .exact{
     M:=yf.Ar λe S xA=>by rw[xH]at xA;exact⟨(yb e (λl=>by grind)).t (xM e (λl=>by grind)),by grind⟩
     ot:=s.ot.Ar λe S xh=>by have:=xC e S (s.tm e xh) (λl=>xh (l▸s.tx));grind
     gx:=by rw[yb k yd,xZ,show xf=(BH (c.set m ⟨i.I,i.AV++[⟨d.n,g⟩]⟩)) by have:=VF xp ⟨i.I,i.AV++[⟨d.n,g⟩]⟩;rw[AdY]at this;simp only[AeE]at this;omega]
     lx:=by grind
     nx:=by grind
     tx:=s.tx
     tm:=λe xh=>by rw[xH];exact(xC e (s.ot.Cz xh) (s.tm e xh) (λl=>xh (l▸s.tx))).2.2}
    .have xy:=λl=>xI (.i l);have xz:=λl=>xI (.j (.i l));have x0:=AdS λl=>xI (.j (.j l));have:=xC e S xz xy;refine⟨P,P,λxA=> ?_⟩;rw[xH]at xA;rcases xA with l|l|l<;>grind
  .rw[A2 xE]at xn;rw[Af xE]at R;refine J j xj 0 (λn x u=> ?_) R;rw[KC.1];simp only[QY,U,V,W,Zy _ _,QB,xn.H B, *]
def Zb(a b:F):Ae F:=
 (A6 .and [a,(.i .u64 4294967295)]).b λc=>
 (A6 .shr [a,(.i .u64 32)]).b λd=>
 (A6 .and [b,(.i .u64 4294967295)]).b λe=>
 (A6 .shr [b,(.i .u64 32)]).b λf=>
 (A6 .mul [c,e]).b λo=>
 (A6 .mul [d,e]).b λp=>
 (A6 .shr [o,(.i .u64 32)]).b λq=>
 (A6 .add [p,q]).b λg=>
 (A6 .and [g,(.i .u64 4294967295)]).b λr=>
 (A6 .shr [g,(.i .u64 32)]).b λs=>
 (A6 .mul [c,f]).b λh=>
 (A6 .add [r,h]).b λi=>
 (A6 .mul [d,f]).b λj=>
 (A6 .add [j,s]).b λk=>
 (A6 .shr [i,(.i .u64 32)]).b λl=>
 (A6 .add [k,l]).b λm=>
 (A6 .mul [a,b]).b λn=>
 A (.AB [m,n])
def vC(d:Bd)(a b:F)(c:G):xx d 264 [a,b] c=(Zb a b).b λe=>A (e,c):=by rw[sW];unfold Zb;simp only[Option.bind_assoc,AdP]
def aF(c:K):Ae F->Ah
 |some (.AB [.i .u64 a,.i .u64 b])=>a==0&&b==c
 |_=>Aa
def rR{a:K}{b:Ae _}(c:aF a b=L):b=A (.AB [.i .u64 0,.i .u64 a]):=by unfold aF at c;grind
def ld:((List.range 101).all λa=>aF a (Zb (.i .u64 1) (.i .u64 a)))=L:=by kernel_rfl
variable{a:D}
def qy(b:a<=100):AY 264 [.i .u64 1,.i .u64 a] (.AB [.i .u64 0,.i .u64 a]):=Bu B B B ⟨G.Aq,by rw[vC,rR (Aei.1 ld a P)];rfl⟩
def qx(b:a<=100):AY 262 [.i .u64 1,.i .u64 a] (.AB [.i .u64 0,.i .u64 a]):=Bu B B B (by refine⟨G.Aq,?_⟩;rw[hn.1];simp only[QY,QB,hn.2,(qy b).H B])
def hz(a:D):C F:=(BG a AO).f N.c
def gL(a:D):(hz a).l=a*2:=by unfold hz;rw[Mf (f:=N.c) (w:=2) (λ_=>B),Afr]
def aA(a b:D):hz (a+b)=hz a++hz b:=by unfold hz;rw[<-List.replicate_append_replicate,AfY]
def gK(a:D):BU (hz a)=L:=by
 rw[DJ]
 unfold hz
 induction a with
 |zero=>rfl
 |succ a b=>rw[Ae4,Aeh,AeG,b];rfl
variable{g:T}
def kF{b:D}(i:d.M g=A (.I (b*2) (hz b))){c:D}(l:c+a<=b):∃h,d.Ep g (c*2) (a*2) (hz a)=A h/\(∀e,h.M e=d.M e)/\∀e,Lv h e=Lv d e:=by
 have j:d.Ep g (c*2) (a*2) (hz a)=A (d.set g (.I (b*2) (hz b))):=by
  rw[Ki (by rw[i];rfl),Af (by omega)];congr 3;split;.grind
  .obtain⟨f,k⟩:∃f,b=c+(a+f):=⟨b-c-a,by omega⟩;rw[k,aA c (a+f),aA a f];have:=Xz (hz a) (hz c) (hz a++hz f);rw[gL]at this;rw[this,hv _ _ _ B]
 exact⟨_,j,jP i,P⟩
def wh{c:T}{b:D}(f:d.M c=A (.I (b*2) (hz b)))(h:a<=b):d.AL c (0+0*2) (a*2)=A (hz a):=by
 rw[D1 f,Af (by omega)];congr 1;split;.grind
 .obtain⟨e,g⟩:∃e,b=a+e:=⟨b-a,by omega⟩;rw[g,aA];rw[Ad7,<-gL a,List.take_left]
def jY(c:T){b:D}(d:D)(e:a<=b):GF 2 L Aa [.Z c 0 b d 2,.n a]=A (.Z c (0+a*2) (b-a) (Mb d a) 2):=by show Aj (AW 2 2) (match(Aj (BX a b) (A (a,b)) O)with|some (f,e)=>A (F.Z c (0+f*2) (e-f) (Mb d f) 2)|none=>O) O=_;rw[AdX e];rfl
def Aae(c:T){b:D}(d:b<=a):GF 2 Aa L [.Z c 0 a (a+1) 2,.n b]=A (.Z c (0+0*2) (b-0) (Mb (a+1) 0) 2):=by show Aj (AW 2 2) (match(Aj (BX b a) (A (0,b)) O)with|some (e,d)=>A (F.Z c (0+e*2) (d-e) (Mb (a+1) e) 2)|none=>O) O=_;rw[AdX d];rfl
def ni{d:T}{b:D}(i:c.M d=A (.I (b*2) (hz b))){g h:D}(r:a<b)(s:0<a):∃e,GD 2 c [.Z d (0+a*2) (b-a) g 2,.Z d (0+0*2) (a-0) h 2]=A (.n (min a (b-a):D),e)/\(∀f,e.M f=c.M f)/\∀f,Lv e f=Lv c f:=by
 let⟨e,m,p,q⟩:=kF i (c:=a) (a:=min a (b-a)) (by omega)
 refine⟨e,?_,p,q⟩;have j:min a (b-a)≠0:=by omega
 have n:F7 c 2 (min a (b-a)) (.Z d (0+0*2) (a-0) h 2)=A (hz (min a (b-a))):=by show Aj _ _ O=_;rw[AdX (by omega),Gm j];exact wh i (by omega)
 show(match F7 c 2 (min a (b-a)) (.Z d (0+0*2) (a-0) h 2)with|some l=>Aj (BU l) (Qi c 2 (min a (b-a)) l (.Z d (0+a*2) (b-a) g 2)) O|none=>O)=_;rw[n];show Aj (BU (hz (min a (b-a)))) (Qi c 2 (min a (b-a)) (hz (min a (b-a))) (.Z d (0+a*2) (b-a) g 2)) O=_;rw[gK];show Aj (AW 2 2) (Aj (AW (min a (b-a)) 0) (A (F.n 0,c)) (match c.Ep d (0+a*2) (min a (b-a)*2) (hz (min a (b-a)))with|some e=>A (F.n (Int.ofNat (min a (b-a))),e)|none=>O)) O=_;rw[Gm j,Ad2,m];rfl
def hL{f:T}{d:D}(t:d<=100):∀h c g,d-c<=h->0<c->c<=d->g.M f=A (.I (d*2) (hz d))->∃i,jj W9 258 2 [.n c,.Z f 0 d (d+1) 2] g=A (.Z f 0 d (d+1) 2,i)/\(∀e,i.M e=g.M e)/\∀e,Lv i e=Lv g e
 |h,c,g,y,q,n,m=>by
  by_cases o:c=d;.subst o;have k:=CA c;refine⟨g,?_,P,λ_=>B⟩;rw[Oq.2.2.2.2.1];simp only[QY,Oq.2.2.2.1, *]
  .have k:(c:K)<(d:K):=by omega
   let⟨r,p,u,v⟩:=ni m (a:=c) (g:=Mb (d+1) c) (h:=Mb (d+1) 0) (by omega) q
   have l:=F2 (a:=(c:K)) (b:=((min c (d-c):D):K)) (by omega) (by omega)
   rw[show(c:K)+((min c (d-c):D):K)=((c+min c (d-c):D):K) by omega]at l
   cases h with
   |zero=>omega
   |succ h=>
    let⟨s,x,z,w⟩:=hL t h (c+min c (d-c)) r (by omega) (by omega) (by omega) ((u f).t m)
    refine⟨s,?_,P,λe=>(w e).t (v e)⟩;rw[Oq.2.2.2.2.1];simp only[QY,(B:DX [.Z f 0 d (d+1) 2]=A (.n (d:K))),k,Oq.2.2.2.2.2,jY f (d+1) n,Aae f n,p,l];grind
def kE{a:K}(b:0<=a)(c:a<=1000000):Iu .u64 a=a:=by rw[KQ];have:IntKind.u64.wrap a=a % 18446744073709551616:=B;omega
def Aa9{a:K}(b:0<=a)(c:a<=1000000):Iu .n a=a:=by rw[KQ];exact NL (by omega) (by omega)
def Uq{d:IntKind}{a:K}(b:0<=a)(c:a<=1000000):Ho .u64 [.i d a]=A (.i .u64 a):=by show A (F.i .u64 (Iu .u64 a))=_;rw[kE b c]
def Zj{d:IntKind}{a:K}(b:0<=a)(c:a<=1000000):Ho .n [.i d a]=A (.n a):=by show A (F.n (Iu .n a))=_;rw[Aa9 b c]
def qv(z:a<=100){m:F}(J:Aw b m N.c 2 [AO]):∃w q,W9 (pos 258) [m,.n (a:K)] b=A (w,q)/\Aw q w N.c 2 (BG a AO)/\AH b q/\Dx b w:=by
 have xi:DX [m]=A (.n 1):=Cp J;have S:¬(a:K)<0:=by omega
 have Z:=qx z;have T:=Uq (d:=.n) (a:=1) (by omega) (by omega);have U:=Uq (d:=.n) (a:=(a:K)) (by omega) (by omega);have V:=Zj (d:=.u64) (a:=(a:K)) (by omega) (by omega);have H:=Ti b.next a (by omega);have u:=Tu b a;have p:AH b (b.V (.I (a*2) ((BG a AO).f N.c))):=AH.V _ _;have i:(b.V (.I (a*2) ((BG a AO).f N.c))).M b.next=A (.I (a*2) (hz a)):=HM _ _;have E:Lv (b.V (.I (a*2) ((BG a AO).f N.c))) b.next:=by grind
 have M:=J.ext p;have y:∀v,Lv b v->As (.Z b.next 0 a (a+1) 2) v:=λv xg=>EN λr=>by subst r;exact EX b xg
 generalize xe:b.next=f at H u i E y;generalize xd:b.V (.I (a*2) ((BG a AO).f N.c))=e at p i E M u;have W:A6 .gtr [.i .u64 0,.i .u64 0]=A (.b Aa):=by rw[Ew];rfl
 have X:A6 .gtr [.i .u64 (a:K),.i .u64 9223372036854775807]=A (.b Aa):=by rw[Ew,A2 (by omega)]
 have Y:∃d,GD 2 e [.Z f 0 a (a+1) 2,m]=A (.n (min 1 a:D),d)/\(∀c,d.M c=e.M c)/\∀c,Lv d c=Lv e c:=by
  let⟨d,r,l,Q⟩:=kF i (c:=0) (a:=min 1 a) (by omega)
  rcases M with⟨_,xl⟩|⟨h,x,xh,_,g,_⟩;.grind
  .subst xh;by_cases t:a=0;.subst t;exact⟨e,B,P,P⟩
   .have j:min 1 a=1:=by omega
    rw[j]at r⊢;refine⟨d,?_,l,Q⟩;have s:F7 e 2 1 (.Z h 0 1 x 2)=A (hz 1):=by show Aj (AW 2 2&&BX 1 1) (Aj (AW 1 0) (A []) (e.AL h 0 (1*2))) O=_;show e.AL h 0 (1*2)=_;rw[D1 g,Af (by grind),Af (by grind)];rfl
    show(match F7 e 2 (min 1 a) (.Z h 0 1 x 2)with|some I=>Aj (BU I) (Qi e 2 (min 1 a) I (.Z f 0 a (a+1) 2)) O|none=>O)=_;rw[j,s];show Aj (BU (hz 1)) (Qi e 2 1 (hz 1) (.Z f 0 a (a+1) 2)) O=_;rw[gK];show(match e.Ep f 0 (1*2) (hz 1)with|some xc=>A (F.n (Int.ofNat 1),xc)|none=>O)=_;grind
 let⟨d,s,l,Q⟩:=Y
 have xa:=(l f).t i;have xb:∃g,jj W9 258 2 [.n (min 1 a:D),.Z f 0 a (a+1) 2] d=A (.Z f 0 a (a+1) 2,g)/\(∀c,g.M c=d.M c)/\∀c,Lv g c=Lv d c:=by
  by_cases t:a=0;.subst t;refine⟨d,?_,P,λ_=>B⟩;have xm:DX [.Z f 0 0 (0+1) 2]=A (.n 0):=B;show jj W9 258 2 [.n 0,.Z f 0 0 (0+1) 2] d=_;rw[Oq.2.2.2.2.1];simp only[QY,Int.lt_irrefl,Oq.2.2.2.1, *]
  .have j:min 1 a=1:=by omega
   rw[j];exact hL z a 1 d (by omega) (by omega) (by omega) xa
 let⟨g,xk,xj,xn⟩:=xb
 have R:AH b g:=λc xf=>⟨(xj c).t ((l c).t (p.M xf)),by grind⟩;refine⟨_,g,AZ B B ?_,u.Ar P,R,y⟩;rw[Oq.1];simp only[QY,S,Oq.2.1,xi,T,U,Z.H B,W,X,QB,Oq.2.2.1,V,xe,H,xd,s];grind
def ha(b:K)(c:N):∀a:C _,(Gg b a).l+(G4 b c a).l=a.l
 |[]=>rfl
 |e::a=>by have d:=ha b c a;unfold Gg G4 at d⊢;grind
structure T0(p:C AE)(f:G)(e:T)(l k:F)(o r:D->F)(h:K)(m:N)(j:C BJ)(q:C Bz)(n:D)(g:D)(i c:F)(b:G):Prop where
 M:CY b l o r p
 ok:Aw b i BJ.c 2 (Gg h (j.t g))
 ot:Aw b c Bz.c 3 (q++G4 h m (j.t g))
 gx:b.M e=A (.I 3 [l,.n ((n:K)-((G4 h m (j.t g)).l:D)),c])
 lx:Lv b e
 d:Cn i c
 fk:∀a,Lv f a->a=e\/As k a->As i a
 tx:As c e
 BO:∀a,Lv f a->a≠e->As k a->b.M a=f.M a/\Lv b a/\As c a
def Aav{Y:C AE}{xh z:D}{n:AE}(x3:Y[xh]? =A n)(yl:n.AV.l<=6000)(t:N){xA:C Bz}(yn:xA.l<=10000){xa:D}(yi:xa<=6000)(yj:n.AV.l<=xa){x5:K}{V J xL:T}{xC:F}{I:G}{Z:F}{xb W:D->F}(xB:CY I l xb W Y)(yr:¬B8 l xb W Y.l g)(yu:∀c,¬As Z c->¬B8 l xb W Y.l c)(xI:Lv I g)(xW:I.M V=A (.I 2 (N.c ⟨x5,z⟩)))(x6:Lv I V)(ya:V≠g)(xQ:As Z V)(xY:I.M J=A (.I 2 (N.c t)))(x7:Lv I J)(yb:J≠g)(xR:As Z J){q:D}(xG:q<n.AV.l){xe xz:F}{j:G}(e:T0 Y I g l Z xb W z t n.AV xA xa q xe xz j):∃xf k xF,jj W9 228 2 [.n n.AV.l,W xh,.p V 0,.p J 0,.p g 0,.n q,xC,xe,.p xL 0] j=jj W9 228 2 [.n n.AV.l,W xh,.p V 0,.p J 0,.p g 0,.n (q+1:D),xC,xf,.p xL 0] xF/\T0 Y I g l Z xb W z t n.AV xA xa (q+1) xf k xF:=by
 let⟨r,xs⟩:=Bb xG
 let⟨xS,xl⟩:=CD (f:=BJ.c) (w:=2) (λ_=>B) (e.M.w xh n x3) xs
 have xD:=Cm xG;have xO:j.AL xS (q*2) 2=A (BJ.c r):=xl.AL (f:=BJ.c) (λ_=>B) xs;let⟨yt,x1,xH,x2,E,xn,yo,yq⟩:=box j (.I 2 (BJ.c r))
 have xP:∀(p:F->G->R),bl (.p j.next 0) (j.V (.I 2 [.n 0,.n 0])) p=p (.p j.next 0) (j.V (.I 2 [.n 0,.n 0])):=λ_=>B;have xy:AX 2 (j.V (.I 2 [.n 0,.n 0])) [.p j.next 0,.S (BJ.c r)]=A (AC,j.V (.I 2 (BJ.c r))):=ET B B;rw[x2]at xy;have xM:=Ay xn 0;have yc:=Ay xn 1;have yd:=BB xn;have xJ:=e.BO V x6 ya xQ;have xK:=e.BO J x7 yb xR;have xN:=Ay ((E.M xJ.2.1).t (xJ.1.t xW)) 1;have ye:x1.AL J 0 2=A (N.c t):=BB ((E.M xK.2.1).t (xK.1.t xY));have xc:=g_ z (n.AV.t q) r;have S:=km z t (n.AV.t q) r;rw[FL xs]at xc S;have xo:=(E.M e.lx).t e.gx;have xv:=E.lv e.lx;by_cases xj:r.B0=z
 .rw[Af xj]at xc S;rw[Ad5]at xc;have xr:=kk z t (n.AV.t q);rw[Aef]at xr;let⟨k,u,xt,xw,xm,xi⟩:=FJ (f:=Bz.c) (w:=3) (b:=(⟨r.Ct,t⟩:Bz)) (o:=.S (Bz.c ⟨r.Ct,t⟩)) (h:=24) (λ_=>B) B B (e.ot.ext E) (DG (by grind))
  have xE:=(xm.M xv e.tx).t xo;have yp:=xm.lv xv e.tx;have xU:Cb [(.n 0),(.i .u8 0),(.n 0)] [(0,1),(1,2)] [.n r.Ct,.S (N.c t)]=A (.S (Bz.c ⟨r.Ct,t⟩)):=B;have yg:=Ay xo 2;have xk:=Gx (d:=2) (a:=k) xE (by omega) (by omega) (Cr xw).1 (Cr xw).2;rw[(Ta _ _ _ _).2.2]at xk;generalize yk:(xa:K)-((G4 z t (n.AV.t q)).l:D)=s at xk xo xE;have xX:∀c,c≠g->(u.set g (.I 3 [l,.n s,k])).M c=u.M c:=λc h=>by rw[AN,Ad h]
  have xp:(u.set g (.I 3 [l,.n s,k])).M g=A (.I 3 [l,.n s,k]):=by rw[AN,Af B]
  have x8:∀c,Lv (u.set g (.I 3 [l,.n s,k])) c=Lv u c:=by grind
  generalize u.set g (.I 3 [l,.n s,k])=X at xk xX xp x8;have yh:=Ay xp 1;have xV:=FA (a:=s) (b:=1) (by omega) (by omega);have xx:=Gx (d:=1) (a:=.n (s-1)) xp (by omega) (by omega) B B;rw[(Ta _ _ _ _).2.1]at xx;have xZ:∀c,c≠g->(X.set g (.I 3 [l,.n (s-1),k])).M c=X.M c:=λc h=>by rw[AN,Ad h]
  have x0:(X.set g (.I 3 [l,.n (s-1),k])).M g=A (.I 3 [l,.n (s-1),k]):=by rw[AN,Af B]
  have x9:∀c,Lv (X.set g (.I 3 [l,.n (s-1),k])) c=Lv X c:=by grind
  generalize X.set g (.I 3 [l,.n (s-1),k])=xq at xx xZ x0 x9;have p:∀c,Lv j c->c≠g->As xz c->xq.M c=j.M c/\Lv xq c/\As k c:=by grind
  have xu:∀c,¬As xe c->c≠g:=λc m xT=>by subst xT;exact m (e.fk _ xI (.i B))
  have yf:=xi g xv e.tx;refine⟨xe,k,xq,?_,?_⟩;.rw[LJ.2.2.2.1];simp only[↓Q,↓QT,xD,LJ.2.2.2.2.1,↓H xl.ia,↓H xO,↓xP,↓H xy,xH,↓H xM,↓H xN,xj,LJ.2.2.2.2.2.2,↓H yg,↓H yc,↓H ye,↓H xU,↓xt,↓H xk,↓H yh,↓H xV,↓H xx,LJ.2.2.2.2.2.1,↓H (Bh (a:=q) (by omega))]
  .exact{
   M:=xB.Ar λc h x4=>by
    have xd:As Z c:=by grind
    have xg:=e.BO c h P xd;grind
   ok:=by rw[xc];exact e.ok.Ar λc h m=>⟨(p c h P (e.d.r m)).1,(p c h P (e.d.r m)).2.1⟩
   ot:=by rw[S,<-AeN];exact xw.Ar λc h m=>by have U:c≠g:=P;grind
   gx:=by grind
   lx:=by grind
   d:=Cn.of λc m=>xi c (E.lv (e.ok.Cz m)) (e.d.r m)
   fk:=e.fk
   tx:=yf
   BO:=λc h U xd=>by have xg:=e.BO c h U xd;have:=p c xg.2.1 U xg.2.2;grind}
 .rw[Ad xj]at xc S;rw[Ad5]at S;have xr:=g3 z (n.AV.t q);rw[Aef]at xr;let⟨xf,u,xt,ys,xm,xi⟩:=FJ (f:=BJ.c) (w:=2) (b:=r) (o:=.S (BJ.c r)) (h:=16) (λ_=>B) B B (e.ok.ext E) (DG (by omega))
  have p:∀c,Lv j c->As xe c->u.M c=j.M c/\Lv u c/\As xf c:=by grind
  have xu:=p g e.lx (e.fk _ xI (.i B));refine⟨xf,xz,u,?_,?_⟩;.rw[LJ.2.2.2.1];simp only[↓Q,↓QT,AdM,xD,LJ.2.2.2.2.1,↓H xl.ia,↓H xO,↓xP,↓H xy,xH,↓H xM,↓H xN,xj,↓H yd,↓xt,LJ.2.2.2.2.2.1,↓H (Bh (a:=q) (by omega))]
  .exact{
   M:=xB.Ar λc h x4=>by have xg:=e.BO c h P P;have:=p c P (e.fk c h P);grind
   ok:=by grind
   ot:=by rw[S];exact e.ot.Ar λc h m=>⟨(p c h (e.d.l m)).1,(p c h (e.d.l m)).2.1⟩
   gx:=by rw[S];exact xu.1.t e.gx
   lx:=xu.2.1
   d:=(Cn.of λc m=>xi c (E.lv (e.ot.Cz m)) (e.d.l m)).symm
   fk:=λc h ym=>by
    by_cases U:c=g;.grind
    .exact(p c (e.BO c h U P).2.1 (e.fk c h Om)).2.2
   tx:=e.tx
   BO:=λc h U xd=>by have xg:=e.BO c h U xd;have:=p c P (e.fk c h P);grind}
def NM(a:K):N:=if a=6 then AO else D4
def HD.refl(c:F)(a:G):HD c a a:=λd b _=>⟨B,b⟩
def p9{b:C AE}(ym:EW b)(y6:BH b<=6000){xf:C Bz}(zE:xf.l<=4000){m:T}{v:F}{p l:D->F}(xg:Ff b xf m k v p l r)(u t e:N)(y7:Kd b u):∃yF xB yb yG xn,W9 (pos 228) [.p m 0,.S (N.c u),.S (N.c t),.S (N.c e)] r=A (.AB [.S (N.c (NM (C9 b u t e).2.2)),.n (C9 b u t e).2.2],xn)/\Ff (C9 b u t e).1 (xf++(C9 b u t e).2.1) m yF xB yb yG xn/\IU r m k v p l b.l xn yF xB yb yG (C9 b u t e).1.l:=by
 let⟨xr,Y,y2,yW,yH,yP,yr,zm⟩:=box r (.I 2 (N.c u))
 let⟨xa,xy,y3,yX,xE,yQ,ys,zK⟩:=box Y (.I 2 (N.c t))
 let⟨xb,yi,y4,yY,xk,yR,yt,zL⟩:=box xy (.I 2 (N.c e))
 let⟨z,yj,y5,yZ,xc,xK,xT,zM⟩:=box yi (.I 2 [.i .u8 0,.n 0])
 have x2:=Ko r u y2 yW
 have x3:=Ko Y t y3 yX
 have x4:=Ko xy e y4 yY
 have x5:=Jp yi y5 yZ
 have xD:=yH.AI (xE.AI (xk.AI xc))
 have yx:¬Lv r xa:=by grind
 have yy:¬Lv r xb:=by grind
 have yz:¬Lv r z:=by grind
 have x8:=xg.ext xD
 have yd:=((xE.AI (xk.AI xc)).M yr).t yP
 have ye:=((xk.AI xc).M ys).t yQ
 have yS:=(xc.M yt).t yR
 have zh:=(xE.AI (xk.AI xc)).lv yr
 have zi:=(xk.AI xc).lv ys
 have zj:=xc.lv yt
 have xY:yj.AL xr 0 2=A (N.c u):=BB yd
 have xZ:yj.AL xa 0 2=A (N.c t):=BB ye
 let⟨zd,zf⟩:=AiN ym x8 u t y7
 cases xv:G0 b u t with
 |false=>
  let⟨xo,xw,J⟩:=zd xv
  have V:C9 b u t e=(b,[],0):=by unfold C9;rw[xv,Af B]
  let⟨q,x0,xX,xH⟩:=Gy ((J.M xT).t xK) D4
  have xl:AH r q:=by rw[xH];exact(xD.AI J).Gw yz _
  have xL:=aa;rw[V,Ad5];refine⟨k,v,p,l,q,AZ B B ?_,xg.ext xl,IU.ext xl⟩;show _=A (F.AB [.S (N.c D4),.n 0],q);rw[LJ.1];simp only[↓x2,↓x3,↓x4,↓x5,↓Q,↓QT,AdM,↓H xY,↓H xZ,↓H xw,↓H nP,QB,↓xL.H B,↓H x0,↓H xX]
 |true=>
  let⟨i,g,c,xC,yM,xo,xp,xi,xR,W,xO,yn,zb,xw,J⟩:=zf xv
  have yl:i<b.l:=by grind
  have y9:=ym.at xi;have S:=x8.ext J;have x6:=xD.AI J;have V:C9 b u t e=if xC.Ak≠0 then(b,[],(6:K))else(Ke b u.n (λc=>⟨c.I.set t.n.n e,Gg t.n c.AV⟩),(match Iq b u.n with|some c=>G4 t.n e c.AV|none=>[]),(0:K)):=by unfold C9;rw[xv,Ad (by grind),xO];rfl
  let⟨xF,x9⟩:=CD (f:=N.c) (w:=2) (λ_=>B) (S.M.c i c xi) W
  have:xF=yM:=by have:=x9.ia;rw[zb]at this;cases this;rfl
  subst this;have yD:xo.AL xF (g*2) 2=A (N.c xC):=x9.AL (f:=N.c) (λ_=>B) W;have xx:=UB xC;by_cases xG:xC.Ak=0
  .rw[A0 xG]at xx;rw[Ad Om,yn]at V;have y8:(Ke b u.n λc=>⟨c.I.set t.n.n e,Gg t.n c.AV⟩)=b.set i ⟨c.I.set g e,Gg g c.AV⟩:=by unfold Ke;rw[yn];simp only[];rw[xp,xR];rfl
   rw[y8,xR]at V;have V:C9 b u t e=(b.set i ⟨c.I.set g e,Gg g c.AV⟩,G4 g e c.AV,0):=V;rw[V];let⟨ya,q,zS,_,_,zy,xm,zQ,zJ,zo⟩:=S.M.Ep xi W e
   have:ya=xF:=by grind
   subst this;have zH:B8 k p l b.l ya:=.j ⟨i,yl,.i zo⟩;have zu:xo.AL xb 0 2=A (N.c e):=BB P;have xq:(b.set i ⟨c.I.set g e,c.AV⟩).l=b.l:=by grind
   have xP:(b.set i ⟨c.I.set g e,c.AV⟩)[i]? =A ⟨c.I.set g e,c.AV⟩:=by grind
   have xj:∀a,Lv xo a->¬B8 k p l b.l a->q.M a=xo.M a/\Lv q a:=P;have zp:∀a,¬Lv r a->¬B8 k p l b.l a:=λa o R=>o (xg.M.lv R);have yv:∀a,¬Lv r a->As v a:=λa o=>AdS λg=>o (xg.ot.Cz g);have xS:=xj m S.lx S.nx;have yg:=xS.1.t S.gx;have yo:=xj xa P P;have yp:=xj xb P P;have yq:=xj z P P;have zq:¬Lv r xr:=zm;have ze:=xj xr P (zp xr zq);have zz:q.Ap m 0=A k:=Ay yg 0;have yL:q.Ap xr 1=A (.n u.n):=Ay (ze.1.t ((J.M zh).t yd)) 1;obtain⟨U,zF,_,_,zv,_⟩:=xm.at (by rw[xq];exact yl);have zc:AR 2 [k,.n u.n]=A (.p U (i*2)):=by grind
   have yc:Bl 1 [.p U (i*2)]=A (.p U (i*2+1)):=B;have zk:AM q [.p U (i*2+1)]=A (l i):=zv;have zl:=Cp (xm.w i _ xP);have zC:BH (b.set i ⟨c.I.set g e,c.AV⟩)=BH b:=by have:=VF xi ⟨c.I.set g e,c.AV⟩;grind
   have za:c.AV.l<=BH b:=by have Y:=Ya xi;have xy:=b_ b (i+1);omega
   have zr:¬B8 k p l (b.set i ⟨c.I.set g e,c.AV⟩).l m:=by rw[xq];exact S.nx
   have x1:∀a,¬As v a->¬B8 k p l (b.set i ⟨c.I.set g e,c.AV⟩).l a:=λa o=>by rw[xq];exact S.tm a o
   have yJ:T0 (b.set i ⟨c.I.set g e,c.AV⟩) q m k v p l g e c.AV xf (BH b) 0 .sn v q:={
    M:=xm
    ok:=Aw.sn q
    ot:=by show Aw q v Bz.c 3 (xf++[]);rw[Ad5];exact S.ot.Ar P
    gx:=by rw[yg];show A (BV.I 3 [k,.n (BH b),v])=A (BV.I 3 [k,.n ((BH b)-(0:D)),v]);rw[show(BH b)-((0:D):K)=BH b by omega]
    lx:=xS.2
    d:=(Ku v).symm
    fk:=λa _ _=>Cg a
    tx:=S.tx
    BO:=λa E W xp=>⟨B,E,xp⟩}
   have yC:∀xW,¬Lv r xW->xW≠m:=λxW o j=>o (j▸xg.lx);have y0:t=⟨t.Ak,g⟩:=by rw[<-xR]
   have yf:=ye;rw[y0]at yf;let⟨⟨Z,xs⟩,xN,xI,x⟩:=Dh (h:=c.AV.l) (f:=λy xt r=>jj W9 228 2 [.n c.AV.l,l i,.p xa 0,.p xb 0,.p m 0,.n y,.p U (i*2),xt.1,.p z 0] r)
    (g:=λy xt r=>T0 (b.set i ⟨c.I.set g e,c.AV⟩) q m k v p l g e c.AV xf (BH b) y xt.1 xt.2 r)
    (λy xt r xh x=>by
     let⟨zg,xB,xn,j,yI⟩:=Aav (xL:=z) (xC:=.p U (i*2)) (n:=⟨c.I.set g e,c.AV⟩) xP y9.2 e (by omega) y6 za xm zr x1 xS.2 (yo.1.t ((J.M zi).t yf)) yo.2 (yC xa yx) (yv xa yx) (yp.1.t ((J.M zj).t yS)) yp.2 (yC xb yy) (yv xb yy) xh x
     exact⟨(zg,xB),xn,j,yI⟩)
    (b:=(.sn,v)) (a:=q) yJ
   have xI:jj W9 228 2 [.n c.AV.l,l i,.p xa 0,.p xb 0,.p m 0,.n 0,.p U (i*2),.sn,.p z 0] q=jj W9 228 2 [.n c.AV.l,l i,.p xa 0,.p xb 0,.p m 0,.n c.AV.l,.p U (i*2),Z,.p z 0] xN:=xI;have x:T0 (b.set i ⟨c.I.set g e,c.AV⟩) q m k v p l g e c.AV xf (BH b) c.AV.l Z xs xN:=x;have yA:=x.ok;have yB:=x.ot;have yh:=x.gx;rw[Gz]at yA yB yh;have xJ:∀a,B8 k p l b.l a->As Z a:=λa R=>by rw[<-xq]at R;exact x.fk a P (.j (AdS λo=>x1 a o R))
   let⟨xu,yk,zR,_,_,_,zw,x7,xV,yu,zn⟩:=x.M.cq (HD.refl _ xN) xP yA (Cn.of λa o=>xJ a (.i o)) (λy xh=>Cn.of λa o=>xJ a (.j ⟨y,by grind,.i o⟩)) (λy xh _=>Cn.of λa o=>xJ a (.j ⟨y,by grind,.j o⟩))
   have:xu=U:=by grind
   subst this;rw[Ae5]at x7;have zG:B8 k p l b.l xu:=.i zn;have zs:=x.BO z P P P;have yT:=(xV z (λj=>by grind)).t (zs.1.t (yq.1.t ((J.M xT).t xK)));let⟨xd,zx,zt,yO⟩:=Gy yT D4
   have xA:∀a,a≠z->xd.M a=yk.M a:=λa E=>by rw[yO,AN,Ad E]
   have xU:∀a,Lv xd a=Lv yk a:=by grind
   have xL:=aa;have yN:=CA c.AV.l;have yw:∀a,Lv q a->a=m\/As v a->¬B8 k p l b.l a->¬B8 k p (BW l i Z) b.l a:=λa E xO xe=>by
    have xM:=E_.1 xe;refine E_.2 ⟨P,λy xh=>⟨P,?_⟩⟩;by_cases j:y=i;.subst j;rw[Ec];exact x.fk a E xO
    .rw[CE j];grind
   have yK:∀a,Lv r a->a≠m->¬B8 k p l b.l a->As v a->xd.M a=r.M a/\Lv xd a/\As xs a/\¬B8 k p (BW l i Z) b.l a:=λa E W xe xp=>by have yV:=x6.lv E;have g:=xj a yV xe;have zP:=x.BO a g.2 W xp;refine⟨(xA a P).t P,by grind,P,P⟩
   have xz:(b.set i ⟨c.I.set g e,Gg g c.AV⟩).l=b.l:=by grind
   have zB:m≠z:=by grind
   have zA:m≠xu:=by grind
   have zO:=yw m P P P;have zI:=yq.2;have zN:=yw z Om P P;have yU:xd.M m=A (.I 3 [k,.n (BH (b.set i ⟨c.I.set g e,Gg g c.AV⟩)),xs]):=by rw[xA m zB,xV m zA,yh];have Y:=VF xi ⟨c.I.set g e,Gg g c.AV⟩;have xy:=ha g e c.AV;simp only at Y;rw[show(BH b)-(G4 g e c.AV).l=(BH (b.set i ⟨c.I.set g e,Gg g c.AV⟩):K) by omega]
   have yE:∀a,¬As xs a->a≠m/\a≠z/\¬B8 k p (BW l i Z) b.l a/\a≠xu:=λa o=>by
    have W:a≠m:=λj=>by subst j;exact o x.tx
    have zD:As Z a:=x.d.l o;have y1:¬B8 k p l b.l a:=λR=>by have xQ:=R;rw[<-xq]at xQ;have:=x.BO a (xm.lv xQ) W (AdS λo=>x1 a o xQ);grind
    refine⟨W,λj=>by subst j;grind,?_,λj=>by subst j;grind⟩;have xM:=E_.1 y1;refine E_.2 ⟨xM.1,λy xh=>⟨(xM.2 y xh).1,?_⟩⟩;by_cases j:y=i;.subst j;rw[Ec];grind
    .rw[CE j];grind
   refine⟨k,xs,p,BW l i Z,xd,AZ B B ?_,?_,⟨λa E xe=> ?_⟩⟩;.show _=A (F.AB [.S (N.c D4),.n 0],xd);rw[LJ.1];simp only[↓x2,↓x3,↓x4,↓x5,↓Q,↓QT,AdM,↓H xY,↓H xZ,↓H xw,↓H (eW _ _),QB,↓H yD,↓xx.H B,LJ.2.1,↓H zu,↓H zy,↓H zz,↓H yL,↓H zc,↓H yc,↓H zk,↓H zl];rw[xI,LJ.2.2.2.1];simp only[QY,yN,LJ.2.2.1,yc,zw,xL.H B,zx,zt]
   .exact{
    M:=x7.Ar λa E R=>by rw[xz]at R;exact⟨xA a (λj=>by subst j;grind),by rw[xU];grind⟩
    ot:=yB.Ar λa E o=>by have g:=yE a o;exact⟨(xA a g.2.1).t (xV a g.2.2.2),by rw[xU,yu];grind⟩
    gx:=yU
    lx:=by rw[xU,yu];exact x.lx
    nx:=by rw[xz];grind
    tx:=x.tx
    tm:=λa o=>by rw[xz];exact(yE a o).2.2.1}
   .have Y:a≠m:=λj=>xe (.i j);have:=yK a E Y (λj=>xe (.j (.i j)):¬B8 k p l b.l a) (AdS λj=>xe (.j (.j j)):As v a);refine⟨this.1,this.2.1,λR=> ?_⟩;rcases R with j|j|j;.exact Y j
    .rw[xz]at j;exact this.2.2.2 j
    .exact j this.2.2.1
  .rw[A2 xG]at xx;rw[Af xG]at V;rw[V,Ad5];let⟨q,x0,xX,xH⟩:=Gy ((J.M xT).t xK) AO
   have xl:AH r q:=by rw[xH];exact x6.Gw yz _
   refine⟨k,v,p,l,q,AZ B B ?_,xg.ext xl,IU.ext xl⟩;show _=A (F.AB [.S (N.c AO),.n 6],q);rw[LJ.1];simp only[↓x2,↓x3,↓x4,↓x5,↓Q,↓QT,AdM,↓H xY,↓H xZ,↓H xw,↓H (eW _ _),QB,↓H yD,↓xx.H B,↓QE,↓H x0,↓H xX]
def jg:∀c a:C _,BH (c++a)=BH c+BH a
 |[],a=>by show BH a=0+BH a;omega
 |d::b,a=>by show d.AV.l+BH (b++a)=d.AV.l+BH b+BH a;rw[jg b a];omega
theorem jB(a:T)(b:N):Dq 1 2 a [.S (N.c b)]=A (.I 2 ([b].f N.c),.Z a 0 1 2 2):=rfl
def u6(a:G)(b:N):Aw (a.V (.I 2 ([b].f N.c))) (.Z a.next 0 1 2 2) N.c 2 [b]:=.j ⟨a.next,2,B,P,P,P⟩
def p8{d:C AE}(yf:EW d){xy:C Bz}{m:F}{q t:D->F}{k:G}(u:Ff d xy g p m q t k)(e:N):∃j V xc J,W9 (pos 227) [.p g 0,.S (N.c e)] k=A (.AB [.S (N.c (Er d e).2.1),.n (Er d e).2.2],J)/\Ff (Er d e).1 xy g j m V xc J/\IU k g p m q t d.l J j m V xc (Er d e).1.l:=by
 have yD:=yf.1;let⟨Z,xG,yg,yc,xZ,x9,xL,yG⟩:=box k (.I 2 (N.c e))
 let⟨y,h,yh,yd,xm,xE,xt,yH⟩:=box xG (.I 2 [.i .u8 0,.n 0])
 have xX:=Ko k e yg yc;have xY:=Jp xG yh yd;have xl:=xZ.AI xm;have xP:¬Lv k y:=by grind
 have z:=u.ext xl;have X:=(xm.M xL).t x9;have yk:=xm.lv xL;have xT:h.AL Z 0 2=A (N.c e):=BB X;have xA:h.Ap Z 0=A (.i .u8 e.Ak):=Ay X 0;have xB:h.Ap Z 1=A (.n e.n):=Ay X 1;have xW:h.Ap g 0=A p:=Ay z.gx 0;have xu:=Cp z.M.o;rw[Ad0]at xu;have xg:∀(R:N)(f:K),(∀i,AX 2 h [.p y 0,.S (N.c R)]=A (AC,i)->i.AL y 0 2=A (N.c R)->xx W9 227 [.p g 0,.S (N.c e)] k=A (.AB [.S (N.c R),.n f],i))->Er d e=(d,R,f)->∃j V xc J,W9 (pos 227) [.p g 0,.S (N.c e)] k=A (.AB [.S (N.c (Er d e).2.1),.n (Er d e).2.2],J)/\Ff (Er d e).1 xy g j m V xc J/\IU k g p m q t d.l J j m V xc (Er d e).1.l:=λR f x x6=>by
  let⟨i,xb,xa,W⟩:=Gy xE R
  have xz:AH k i:=by rw[W];exact xl.Gw xP _
  rw[x6];exact⟨p,q,t,i,AZ B B P,u.ext xz,IU.ext xz⟩
 have E:=Xd e;have Y:=N9 e.n 0 100;by_cases xe:e.Ak=5;.refine xg e 0 (λi xb xa=> ?_) (by unfold Er;grind);rw[A0 xe]at E;rw[S2.1];simp only[QY,E.H B,QB, *]
 rw[A2 xe]at E;by_cases xq:e.Ak=1
 .cases xf:BK e.n 0 100 with
  |false=>rw[xf]at Y;refine xg (Ed 4) 0 (λi xb xa=> ?_) (by unfold Er;grind);rw[S2.1];simp only[QY,E.H B,QB,Y.H B,(N_ 4).H B, *]
  |true=>
   rw[xf]at Y;have yB:0<=e.n/\e.n<=100:=by unfold BK at xf;grind
   have xh:=Ch .n d.l 400;by_cases x2:d.l=400;.rw[A0 (by omega)]at xh;refine xg AO 5 (λi xb xa=> ?_) (by unfold Er;grind);rw[S2.1];simp only[↓xX,↓xY,↓Q,↓QT,↓H xT,↓E.H B,QB,↓H xA,↓H xB,↓Y.H B,↓H xW,↓H xu,↓H xh,↓QE,↓H xb,↓H xa, *]
   .rw[A2 (by omega)]at xh;have xJ:Er d e=(d++[⟨BG e.n.n AO,[]⟩],JJ d.l,0):=by unfold Er;rw[Ad xe,Ad (λk=>k xq),xf,Ad (by grind),Ad x2]
    rw[xJ];have yl:Bv .Cq [.p g 0] h p=L:=Ij z.gx B;have yn:Bv .Cq [.p Z 1] h (.n e.n)=L:=Ij X B;have xo:AH h (h.V (.I 2 ([AO].f N.c))):=AH.V _ _;have xv:=u6 h AO;have xU:=jB h.next AO;generalize yi:F.Z h.next 0 1 2 2=R at xv xU;generalize ye:h.V (.I 2 ([AO].f N.c))=xH at xo xv;have x1:xH.Ap Z 1=A (.n e.n):=Ay ((xo.M yk).t X) 1;have w:e.n=e.n.n:=by omega
    generalize yC:e.n.n=x at w xJ;let⟨I,xI,xC,xR,x0,x7⟩:=qv (a:=x) (by omega) xv
    rw[<-w]at xC;have xn:=xo.AI x0;have S:=z.ext xn;have ym:Bv .Cq [.p g 0] xI p=L:=Ij S.gx B;have x4:Cb [.sn,.sn] [(0,1)] [I]=A (.S [I,.sn]):=by rcases xR with⟨rfl,_⟩|⟨_,_,rfl,_⟩<;>rfl
    have x8:∀c,Lv h c->As I c:=λc r=>x7 c P;have xr:∀{xV:F},(∀c,¬As xV c->B8 p q t d.l c)->Cn xV I:=λx=>Cn.of λc l=>x8 c (z.M.lv (x c l));let⟨j,i,yj,xd,W,yx⟩:=S.M.Es (m:=⟨BG x AO,[]⟩) xR (Aw.sn xI) (Ku _) (xr λc l=>.i l) (Ku _) (λxk xj=>⟨xr λc l=>.j ⟨xk,xj,.i l⟩,xr λc l=>.j ⟨xk,xj,.j l⟩,Ku _,Ku _⟩) (by omega)
    have yq:=E_.1 S.nx;have yb:=(W.M S.lx P).t S.gx;have yA:BH (d++[⟨BG x AO,[]⟩])=BH d:=by rw[jg];rfl
    have xw:=Gx (d:=0) (a:=j) yb (by omega) (by omega) (Cr xd.o).1 (Cr xd.o).2;rw[(Ta _ _ _ _).1]at xw;have xQ:∀c,c≠g->(i.set g (.I 3 [j,.n (BH d),m])).M c=i.M c:=λc r=>by rw[AN,Ad r]
    have xF:(i.set g (.I 3 [j,.n (BH d),m])).M g=A (.I 3 [j,.n (BH d),m]):=by rw[AN,Af B]
    have xN:∀c,Lv (i.set g (.I 3 [j,.n (BH d),m])) c=Lv i c:=by grind
    generalize i.set g (.I 3 [j,.n (BH d),m])=xs at xw xQ xF xN;have yv:xs.Ap g 0=A j:=Ay xF 0;have xM:=Cp xd.o;have xK:(d++[(⟨BG x AO,[]⟩:AE)]).l=d.l+1:=by simp
    rw[Ad0,xK]at xM;have xD:=FA (a:=(d.l+1:D)) (b:=1) (by omega) (by omega);rw[show(d.l+1:D)-1=(d.l:K) by omega]at xD;have x5:Cb [(.i .u8 0),(.n 0)] [(0,1),(1,1)] [.i .u8 4,.n d.l]=A (.S (N.c (JJ d.l))):=B;have xS:¬B8 p q t d.l y:=λxi=>xP (u.M.lv xi);have ys:As p y:=(E_.1 xS).1;have yw:g≠y:=by grind
    have ya:=(xQ y (λf=>yw f.s)).t ((W.M (xn.lv xt) ys).t ((xn.M xt).t xE));let⟨U,yu,yt,x3⟩:=Gy ya (JJ d.l)
    have yr:∀c,c≠y->U.M c=xs.M c:=λc r=>by rw[x3,AN,Ad r]
    have yo:∀c,Lv U c=Lv xs c:=by grind
    have xO:∀c,Lv h c->¬B8 p q t d.l c->¬B8 j (BW q d.l I) (BW t d.l .sn) (d++[(⟨BG x AO,[]⟩:AE)]).l c:=λc r w=>by
     have yy:=E_.1 w;refine E_.2 ⟨P,λxk xj=> ?_⟩;rw[xK]at xj;by_cases f:xk=d.l;.subst f;rw[Ec,Ec];exact⟨P,Cg c⟩
     .rw[CE f,CE f];grind
    have xp:∀c,Lv k c->c≠g->¬B8 p q t d.l c->U.M c=k.M c/\Lv U c/\¬B8 j (BW q d.l I) (BW t d.l .sn) (d++[(⟨BG x AO,[]⟩:AE)]).l c:=λc r yF w=>by have yz:=xl.lv r;have yE:=(E_.1 w).1;grind
    have yp:=xO g z.lx z.nx;have yI:=xO y xt xS;refine⟨j,BW q d.l I,BW t d.l .sn,U,AZ B B ?_,?_,⟨λc r w=> ?_⟩⟩;.show _=A (F.AB [.S (N.c (JJ d.l)),.n 0],U);rw[S2.1];simp only[↓xX,↓xY,↓Q,↓QT,AdM,↓H xT,↓E.H B,QB,↓H xA,xq,↓H xB,↓Y.H B,↓H xW,↓H xu,↓H xh,S2.2,↓Xa.H B,yl,↓Lq,↓H xU,yi,ye,↓H x1,yn,↓H xC,ym,↓H x4,↓yj,↓H xw,↓H yv,↓H xM,↓H xD,↓H x5,↓H yu,↓H yt]
    .exact{
     M:=xd.Ar λc r xi=>⟨(yr c P).t P,by grind⟩
     ot:=u.ot.Ar λc r l=>by have:=xp c r (λf=>l (f▸u.tx)) (u.tm c l);grind
     gx:=by grind
     lx:=by rw[yo,xN];exact W.lv S.lx yq.1
     nx:=yp
     tx:=u.tx
     tm:=λc l=>(xp c (u.ot.Cz l) (λf=>l (f▸u.tx)) (u.tm c l)).2.2}
    .have h:¬B8 p q t d.l c:=λf=>w (.j (.i f));have xH:As m c:=AdS λf=>w (.j (.j f));have:=xp c r (λf=>w (.i f)) h;refine⟨this.1,this.2.1,λxi=> ?_⟩;rcases xi with f|f|f<;>grind
 .refine xg (Ed 5) 0 (λi xb xa=> ?_) (by unfold Er;rw[Ad xe,Af xq]);rw[S2.1];simp only[QY,E.H B,QB,(N_ 5).H B, *]
structure ED where
 op:K
 a:N
 b:N
 c:N
 Ct:K
def ED.c8(d:ED):C F:=[.i .u8 d.op,.i .u8 d.a.Ak,.n d.a.n,.i .u8 d.b.Ak,.n d.b.n,.i .u8 d.c.Ak,.n d.c.n,.n d.Ct]
def ED.CQ(d:ED):C N:=if d.op=2 then[d.a,d.b,d.c]else if d.op=3 then[d.a,d.b]else[d.a]
structure kN where
 m:C AE
 v:N
 F1:C Bz
 e:K
def BE(b:C AE)(a:ED):kN:=
 if a.op=1 then⟨(Er b a.a).1,(Er b a.a).2.1,[],(Er b a.a).2.2⟩
 else if a.op=2 then⟨(C9 b a.a a.b a.c).1,NM (C9 b a.a a.b a.c).2.2,(C9 b a.a a.b a.c).2.1,(C9 b a.a a.b a.c).2.2⟩
 else if a.op=3 then⟨(Eb b a.a a.b a.Ct).1,(Eb b a.a a.b a.Ct).2.1,[],(Eb b a.a a.b a.Ct).2.2⟩
 else⟨b,L2 b a.a,[],0⟩
def iJ{r:Type}{d:r->C F}{b l:D}(E:∀k,(d k).l=b)(y:∀k,BU (d k)=L){h f:F}{e a:C r}(w:Aw c h d b e)(q:Aw c f d b a)(z:(e.l+a.l)*l<=GA):∃i g,DN b l c [h,f]=A (i,g)/\Aw g i d b (e++a)/\HD h c g/\(∀m,Lv c m->As h m->As i m):=by
 let⟨i,g,J,H⟩:=Vv E w z
 refine⟨i,g,?_,H⟩;have s:∀e:C _,BU (e.f d)=L:=λe=>by
  induction e with
  |nil=>rfl
  |cons k P n=>rw[DJ]at n⊢;rw[Aeh,AeG,n,<-DJ,y];rfl
 show(match Ii f with|some o=>(match F7 c b o f with|some p=>Aj (BU p) (Jo c b l h o p) O|none=>O)|none=>O)=_;have u:Ii f=A a.l:=by rcases q with⟨rfl,rfl⟩|⟨j,t,rfl,_⟩<;>rfl
 have v:F7 c b a.l f=A (a.f d):=by
  rcases q with⟨rfl,rfl⟩|⟨j,t,rfl,M,x,N⟩;.rfl
  .show Aj (AW b b&&BX a.l a.l) (Aj (AW a.l 0) (A []) (c.AL j 0 (a.l*b))) O=_;rw[Aee,AdX (CK _)];show Aj (AW a.l 0) (A []) (c.AL j 0 (a.l*b))=_;by_cases I:a.l=0
   .have:a=[]:=by grind
    subst this;rfl
   .rw[Gm I];show c.AL j 0 (a.l*b)=_;rw[D1 x,Af (by omega),Af B]
 rw[u];simp only[v];rw[s];grind
def lu{d:T}{j:F}{z:C F}{c:C AE}{y:D->F}(E:c.l<=400)(o:b.M e=A (.I 1 [.p d 0]))(v:Lv b e)(q:b.M d=A (.I 3 (j::z)))(w:Lv b d)(x:Aw b j (Hh n y) 2 (List.range c.l))(t:C _):M4 (AH b) (pos 225) [.p e 0] t (λd=>.S (N.c d)) (λa=> !Ie a c.l):=λa _ g k=>by
 have h:=p7 a c.l (by omega);let⟨I,i,s,r,l,p,H,_⟩:=box g (.I 2 (N.c a))
 have Q:=Ko g a s r;have f:=k.AI l;have M:=p;have J:=(f.M v).t o;have P:=(f.M w).t q;have u:=Cp x;rw[Ad0]at u;refine⟨i,AZ B B ?_,f⟩;show xx W9 225 [.S (N.c a),.p e 0] g=A (.b (!Ie a c.l),i);generalize Ie a c.l=m at h⊢;rw[sy];cases m<;>simp only[QY,h.H B,QB, *]
def WX{h g:G}{p j:C AE}{S w:C Bz}{c:T}{s q:F}{t f m:D->F}{U:C F}(x:AH h g)(y:Ff p S e s q n t h)(u:IU g e s q n t p.l d l k f m j.l)(z:Ff j w e l k f m d)(E:g.M c=A (.I 2 U))(I:Lv g c)(M:¬Lv h c)(r:N):∃b,AX 2 d [.p c 0,.S (N.c r)]=A (AC,b)/\b.AL c 0 2=A (N.c r)/\Ff j w e l k f m b/\IU h e s q n t p.l b l k f m j.l:=by
 have J:=λo=>M (y.t0 o);have o:=u.fr c I J;let⟨b,R,Q,v⟩:=Gy (o.1.t E) r
 have P:∀a,a≠c->b.M a=d.M a:=λa i=>by rw[v,AN,Ad i]
 have X:∀a,Lv b a=Lv d a:=by grind
 refine⟨b,R,Q,z.Ar λa i V=>⟨P a (λv=>by grind),by grind⟩,⟨λa i H=> ?_⟩⟩;have W:=u.fr a (x.lv i) H;grind
def rP{c:C _}{a:N}(b:Ie a c.l=L):Kd c a:=by unfold Ie at b;rw[AdO]at b;exact Xp (by rw[Ph a (by omega)];grind)
def m2{d:C _}(p:EW d){x:C Bz}{l i j:T}{y v:F}{z:D->F}{a:G}(g:Ff d x l y v n z a)(o:a.M e=A (.I 1 [.p l 0]))(t:Lv a e){c:C _}(u:Aw a k N.c 2 c)(E:c.l<1000)(r:∀h∈c,Ie h d.l=L):∃b,jj W9 195 3 [k,.p e 0,.p i 0,.p j 0] a=jj W9 195 2 [.p e 0,.p i 0,.p j 0] b/\AH a b:=by
 let⟨b,s,m⟩:=M7 Uk SJ (IX.Cs (c:=N.c) (a:=2) (λ_=>B) u) (lu p.1 o t g.gx g.lx g.M.o c) (by omega) a (λH q=>⟨B,q⟩)
 rw[P_ (λh=>Ie h d.l),Aei.2 r]at s;refine⟨b,?_,m⟩;rw[Nm.2.1];simp only[QY,QB, *]
def X8{a:G}{b:T}{c:ED}(d:a.M b=A (.I 8 c.c8)):a.Ap b 0=A (.i .u8 c.op)/\a.AL b 1 2=A (N.c c.a)/\a.AL b 3 2=A (N.c c.b)/\a.AL b 5 2=A (N.c c.c)/\a.Ap b 7=A (.n c.Ct):=by refine⟨Ay d 0,?_,?_,?_,Ay d 7⟩<;>(rw[D1 d,Af (by grind),Ad (by grind)];rfl)
def nm{b:C AE}(s:EW b)(U:BH b<=6000){x:T}{P:F}{S Q:D->F}(n:Ff b [] x P p S Q r){V W v:T}{k:G}(l:AH r k)(a:ED)(xd:k.M V=A (.I 1 [.p x 0]))(Y:k.M W=A (.I 8 a.c8)){xc:C F}(q:k.M v=A (.I 2 xc))(t:Lv k v)(u:¬Lv r v)(Z:a.op=1\/a.op=2\/a.op=3\/a.op=4)(xa:∀xb∈a.CQ,Ie xb b.l=L):∃d w c e H,jj W9 195 2 [.p V 0,.p W 0,.p v 0] k=A (.AB [.S (N.c (BE b a).v),.n (BE b a).e],H)/\Ff (BE b a).m (BE b a).F1 x d w c e H/\IU r x P p S Q b.l H d w c e (BE b a).m.l:=by
 have o:=n.ext l;let⟨xe,xg,xh,xi,xf⟩:=X8 Y
 have X:a.a∈a.CQ:=by unfold ED.CQ;split;simp;split<;>simp
 have J:=rP (xa a.a X);rcases Z with y|y|y|y
 .have i:BE b a=⟨(Er b a.a).1,(Er b a.a).2.1,[],(Er b a.a).2.2⟩:=by unfold BE;grind
  rw[i];let⟨d,c,e,E,z,j,m⟩:=p8 s o a.a
  let⟨h,M,I,g,f⟩:=WX l n m j q t u (Er b a.a).2.1
  refine⟨d,p,c,e,h,?_,g,f⟩;rw[Nm.2.2.2.1];simp only[QY,Int.reduceEq, *]
 .have i:BE b a=⟨(C9 b a.a a.b a.c).1,NM (C9 b a.a a.b a.c).2.2,(C9 b a.a a.b a.c).2.1,(C9 b a.a a.b a.c).2.2⟩:=by unfold BE;grind
  rw[i];let⟨d,w,c,e,E,z,j,m⟩:=p9 s U (xf:=[]) (by grind) o a.a a.b a.c J
  rw[Af2]at j;let⟨h,M,I,g,f⟩:=WX l n m j q t u (NM (C9 b a.a a.b a.c).2.2)
  refine⟨d,w,c,e,h,?_,g,f⟩;rw[Nm.2.2.2.1];simp only[QY,Int.reduceEq, *]
 .have i:BE b a=⟨(Eb b a.a a.b a.Ct).1,(Eb b a.a a.b a.Ct).2.1,[],(Eb b a.a a.b a.Ct).2.2⟩:=by unfold BE;grind
  rw[i];let⟨d,c,e,E,z,j,m⟩:=p_ s U o a.a a.b a.Ct J
  let⟨h,M,I,g,f⟩:=WX l n m j q t u (Eb b a.a a.b a.Ct).2.1
  refine⟨d,p,c,e,h,?_,g,f⟩;rw[Nm.2.2.2.1];simp only[QY,Int.reduceEq, *]
 .have i:BE b a=⟨b,L2 b a.a,[],0⟩:=by unfold BE;grind
  rw[i];let⟨E,z,R⟩:=qa s o a.a J
  let⟨h,M,I,g,f⟩:=WX l n (IU.ext R) (o.ext R) q t u (L2 b a.a)
  refine⟨P,p,_,Q,h,?_,g,f⟩;rw[Nm.2.2.2.1];simp only[QY,Int.reduceEq,Nm.2.2.2.2, *]
theorem wF(c:T)(a b:N):Dq 2 2 c [.S (N.c a),.S (N.c b)]=A (.I 4 ([a,b].f N.c),.Z c 0 2 3 2):=rfl
def pP{b:C AE}(xB:EW b)(xX:BH b<=6000){d:T}{xb xa:F}{M xc:D->F}{k:G}(xr:Ff b [] d xb xa M xc k)(a:ED)(xS:a.op=1\/a.op=2\/a.op=3\/a.op=4)(xD:∀x3∈a.CQ,Ie x3 b.l=L):∃h g e i c,W9 (pos 195) [.p d 0,.S a.c8] k=A (.AB [.S (N.c (BE b a).v),.n (BE b a).e],c)/\Ff (BE b a).m (BE b a).F1 d h g e i c/\IU k d xb xa M xc b.l c h g e i (BE b a).m.l:=by
 let⟨z,u,xU,xO,xG,xw,X,yh⟩:=box k (.I 1 [.p d 0])
 let⟨q,xf,xV,xP,r,xe,v,yi⟩:=box u (.I 8 a.c8)
 let⟨E,U,xW,xQ,j,xz,Y,yj⟩:=box xf (.I 2 [.i .u8 0,.n 0])
 let⟨l,p,xC,xA,m,xM,xZ,yk⟩:=box U (.I 2 ([a.a].f N.c))
 have xo:∀(t:F->G->R),bl (.p k.next 0) (k.V (.I (Bq (F.I (.p d 0))) (F.I (.p d 0)))) t=t (.p z 0) u:=Dy k (.I 1 [.p d 0]) xU xO;have xp:∀(t:F->G->R),bl (.p u.next 0) (u.V (.I (Bq (F.I (.S a.c8))) (F.I (.S a.c8)))) t=t (.p q 0) xf:=Dy u (.I 8 a.c8) xV xP;have xq:=Jp xf xW xQ;have xd:=xG.AI (r.AI j);have x4:=xd.AI m;have x9:=((r.AI (j.AI m)).M X).t xw;have ye:=(r.AI (j.AI m)).lv X;have xy:=((j.AI m).M v).t xe;have yf:=(j.AI m).lv v;have ya:=(m.M Y).t xz;have yg:=m.lv Y;have xx:=((r.AI j).M X).t xw;have xh:=(r.AI j).lv X;let⟨xj,yp,_,_,_⟩:=X8 xy
 let⟨yo,xk,_,_,_⟩:=X8 ((j.M v).t xe)
 let⟨_,_,yq,yr,_⟩:=X8 xy
 have xF:Aw p (.Z l 0 1 2 2) N.c 2 [a.a]:=.j ⟨l,2,B,.j B,xM,xZ⟩;have xl:Dq 1 2 l [.S (N.c a.a)]=A (.I 2 ([a.a].f N.c),.Z l 0 1 2 2):=jB l a.a;have S:∀(xm:F)(W:G),Aw W xm N.c 2 a.CQ->AH U W->jj W9 195 4 [.b (Ao (a.op=1\/a.op=4)),.i .u8 a.op,.Z l 0 1 2 2,.p z 0,.p q 0,.p E 0] p=jj W9 195 3 [xm,.p z 0,.p q 0,.p E 0] W->∃h g e i c,jj W9 195 4 [.b (Ao (a.op=1\/a.op=4)),.i .u8 a.op,.Z l 0 1 2 2,.p z 0,.p q 0,.p E 0] p=A (.AB [.S (N.c (BE b a).v),.n (BE b a).e],c)/\Ff (BE b a).m (BE b a).F1 d h g e i c/\IU k d xb xa M xc b.l c h g e i (BE b a).m.l:=λxm W x2 n o=>by
  have xR:a.CQ.l<1000:=by
   have:a.CQ.l<=3:=by unfold ED.CQ;split;simp;split<;>simp
   omega
  let⟨xg,xv,xH⟩:=m2 (i:=q) (j:=E) xB (xr.ext (xd.AI n)) ((n.M xh).t xx) (n.lv xh) x2 xR xD
  have s:=n.AI xH;let⟨h,g,e,i,yb,x8,x6,x5⟩:=nm xB xX xr (xd.AI s) a ((s.M xh).t xx) ((s.M (j.lv v)).t ((j.M v).t xe)) ((s.M Y).t xz) (s.lv Y) P xS xD
  grind
 have x1:∃h g e i c,jj W9 195 4 [.b (Ao (a.op=1\/a.op=4)),.i .u8 a.op,.Z l 0 1 2 2,.p z 0,.p q 0,.p E 0] p=A (.AB [.S (N.c (BE b a).v),.n (BE b a).e],c)/\Ff (BE b a).m (BE b a).F1 d h g e i c/\IU k d xb xa M xc b.l c h g e i (BE b a).m.l:=by
  by_cases xt:a.op=1\/a.op=4
  .have xE:a.CQ=[a.a]:=by unfold ED.CQ;grind
   refine S (.Z l 0 1 2 2) p (by grind) m ?_;rw[A0 xt,Nm.2.2.1];simp only[↓Q]
  .rw[A2 xt]at S⊢;by_cases xK:a.op=3
   .have xE:a.CQ=[a.a,a.b]:=by unfold ED.CQ;rw[Ad (by omega),Af xK]
    let⟨xn,V,xY,ym,xL,_⟩:=FJ (f:=N.c) (w:=2) (b:=a.b) (o:=.S (N.c a.b)) (h:=16) (λ_=>B) B B xF (DG (by grind))
    refine S xn V (by grind) (λxi xT=>by have:=xL xi P (EN P);grind:AH U V) ?_
    rw[Nm.2.2.1];simp only[QY, *]
   .have x7:a.op=2:=by omega
    have xE:a.CQ=[a.a,a.b,a.c]:=by unfold ED.CQ;grind
    let⟨I,V,yd,yc,n,xN,x0,yl⟩:=box p (.I 4 ([a.b,a.c].f N.c))
    have ys:Dq 2 2 I [.S (N.c a.b),.S (N.c a.c)]=A (.I 4 ([a.b,a.c].f N.c),.Z I 0 2 3 2):=wF I a.b a.c;let⟨xn,xg,xY,yn,xv,_⟩:=iJ (d:=N.c) (b:=2) (l:=16) (λ_=>B) (λ_=>B) (xF.ext n) (.j ⟨I,3,B,.j B,xN,x0⟩:Aw V (.Z I 0 2 3 2) N.c 2 [a.b,a.c]) (DG (by grind))
    refine S xn xg (by grind) (λxi xT=>by have:=xv xi P (EN P);grind:AH U xg) ?_
    rw[Nm.2.2.1];simp only[QY,Int.reduceEq, *]
 let⟨h,g,e,i,c,o,xJ,xI⟩:=x1
 refine⟨h,g,e,i,c,AZ B B ?_,xJ,xI⟩;have J:=Ch .u8 a.op 1;have Z:=Ch .u8 a.op 4;rw[Nm.1];by_cases xs:a.op=1;.rw[A0 xs]at J;rw[A0 Om]at o;simp only[↓xo,↓xp,↓xq,↓Q,↓H xk,xC,↓H xl,xA,↓H xj,↓H J,o]
 .rw[A2 xs]at J;by_cases xu:a.op=4;.rw[A0 xu]at Z;rw[A0 Om]at o;simp only[↓xo,↓xp,↓xq,↓Q,↓H xk,xC,↓H xl,xA,↓H xj,↓H J,↓H Z,o]
  .rw[A2 xu]at Z;rw[A2 Om]at o;simp only[↓xo,↓xp,↓xq,↓Q,↓H xk,↓H xl,↓H xj,↓H J,↓H Z, *]
def PR{a:T}{g:C F}(e:c.M a=A (.I 1 g)){b:F}(f:Fl b=L):∃d,AX 1 c [.p a 0,.S [b]]=A (AC,d)/\d.AL a 0 1=A [b]/\d=c.set a (.I 1 [b]):=
 ⟨_,Gb e B (by rw[DJ];simp[f]),BB (by rw[AN,Af B]),B⟩
def pQ{o:C AE}{t:C Bz}{f:T}{b s:F}{h u:D->F}{a:G}(c:Ff o t f b s h u a):∃e,W9 (pos 196) [.p f 0] a=A (.S [b],e)/\AH a e:=by
 let⟨z,x,n,m,d,k,y,p⟩:=box a (.I 1 [.sn])
 have w:=Dy a (.I 1 [.sn]) n m;have g:=c.ext d;have v:=Ay g.gx 0;have j:Cb [.sn] [(0,1)] [b]=A (.S [b]):=by rcases c.M.o with⟨rfl,_⟩|⟨_,_,rfl,_⟩<;>rfl
 let⟨l,r,q,i⟩:=PR k (Cr c.M.o).2
 refine⟨l,AZ B B ?_,by rw[i];exact d.Gw p _⟩;rw[so];simp only[↓w,↓Q,↓H v,↓H j,↓H r,↓H q]
structure Ft(a:C AE):Prop where
 ok:EW a
 Sc:I1 a=0
def Ft.jf{b:C _}(c:Ft b):BH b<=6000:=by
 have a:=c.Sc;unfold I1 at a;split at a;.grind
 .grind
def pv{c:C AE}(xa:Ft c){xW yF:D->F}(xU:CY d l xW yF c)(b:ED)(yh:b.op=1\/b.op=2\/b.op=3\/b.op=4)(ym:∀yE∈b.CQ,Ie yE c.l=L):((BE c b).e≠0->∃m,W9 (pos 151) [.S [l],.S b.c8] d=A (.AB [.S [.sn],.S (N.c AO),.sn,.n (BE c b).e],m)/\AH d m)/\
  ((BE c b).e=0->∃I xg P Y m,W9 (pos 151) [.S [l],.S b.c8] d=A (.AB [.S [I],.S (N.c (BE c b).v),xg,.n 0],m)/\AH d m/\CY m I P Y (BE c b).m/\Aw m xg Bz.c 3 (BE c b).F1/\
   (∀a,Lv d a->¬B8 I P Y (BE c b).m.l a/\As xg a)/\(∀a,¬As xg a->¬B8 I P Y (BE c b).m.l a)):=by
 let⟨xG,T,yi,yc,xR,xZ,yn,yP⟩:=box d (.I 1 [l])
 let⟨xH,V,yj,yd,xp,x1,xA,yQ⟩:=box T (.I 8 b.c8)
 let⟨i,W,yk,ye,Z,x3,xB,yR⟩:=box V (.I 1 [.sn])
 let⟨x,r,yl,yf,t,x6,xe,yS⟩:=box W (.I 2 [.i .u8 0,.n 0])
 have xN:∀(j:F->G->R),bl (.p d.next 0) (d.V (.I (Bq (F.I (.S [l]))) (F.I (.S [l])))) j=j (.p xG 0) T:=Dy d (.I 1 [l]) yi yc
 have xO:∀(j:F->G->R),bl (.p T.next 0) (T.V (.I (Bq (F.I (.S b.c8))) (F.I (.S b.c8)))) j=j (.p xH 0) V:=Dy T (.I 8 b.c8) yj yd
 have xP:∀(j:F->G->R),bl (.p V.next 0) (V.V (.I 1 [.sn])) j=j (.p i 0) W:=Dy V (.I 1 [.sn]) yk ye
 have xQ:=Jp W yl yf
 have xh:=xR.AI (xp.AI (Z.AI t))
 have xD:¬Lv d i:=by grind
 have xE:¬Lv d x:=by grind
 have x0:=((xp.AI (Z.AI t)).M yn).t xZ
 have x2:=((Z.AI t).M xA).t x1
 have yo:=(Z.AI t).lv xA
 have x4:=(t.M xB).t x3
 have xd:=t.lv xB
 have xf:i≠x:=by grind
 have xK:r.AL xG 0 1=A [l]:=BB x0
 let⟨f,I,P,Y,ya,xv,xV,xq,xY⟩:=fG xa.ok xa.Sc (xU.ext xh)
 have xI:ya.AL xH 0 8=A b.c8:=BB ((xq.M yo).t x2)
 let⟨xo,E,xu,xM,w,xk,xi,xT⟩:=pP xa.ok xa.jf xV b yh ym
 have yw:∀a,Lv r a->¬NP f I .sn P Y c.l a:=λa e xc=>by
  have:=xY a e;rcases xc with s|s|s;.grind
  .grind
  .exact s (Cg a)
 have n:∀a,Lv r a->w.M a=r.M a/\Lv w a/\¬NP f xo E xu xM (BE c b).m.l a:=λa e=>by have:=xT.fr a (xq.lv e) (yw a e);grind
 have xS:AH r w:=λa e=>⟨(n a e).1,(n a e).2.1⟩
 let⟨y,yL,xm,xl,xr,x9,yN,yv⟩:=box w (.I 2 [.i .u8 0,.n 0])
 have yV:=Jp w xm xl
 have yJ:=xi.ext xr
 let⟨X,xL,yT,xw⟩:=Gy x9 (BE c b).v
 have xs:AH w X:=by rw[xw];exact xr.Gw yv _
 have xj:=xi.ext xs
 have xy:X.M y=A (.I 2 (N.c (BE c b).v)):=by rw[xw,AN,Af B]
 have yp:Lv X y:=by grind
 have J:=xS.AI xs
 have xt:=xh.AI J
 have xx:=(J.M xd).t x4
 have x7:=(J.M xe).t x6
 constructor
 .intro yg;have xX:Cb [.sn] [] []=A (.S [.sn]):=B;let⟨k,yC,yU,S⟩:=PR xx (b:=.sn) B
  let⟨p,xn,xJ,g⟩:=Gy (b:=k) (a:=x) (f:=[.i .u8 0,.n 0]) (by rw[S,AN,Ad xf.symm];grind) AO
  have yy:p.AL i 0 1=A [.sn]:=BB (by rw[g,AN,Ad xf,S,AN,Af B]);refine⟨p,AZ B B ?_,?_⟩;.rw[UR.1];simp only[↓xN,↓xO,↓xP,↓xQ,↓Q,↓QT,AdM,↓H xK,↓H xv,Int.reduceEq,UR.2.1,↓H xI,↓H xk];rw[xm,xl];simp only[QY,xL,yg,xX,QE,yC,xn,yy,xJ]
  .rw[g,S];exact((xt.Gw xD _).Gw xE _)
 .intro yb;let⟨k,S,M⟩:=pQ xj
  have u:=xj.ext M;have x8:=(M.M yp).t xy;have yM:Lv k i:=by grind
  have yA:k.AL y 0 2=A (N.c (BE c b).v):=BB x8;have yq:Bv (.ld 2) [.p y 0] X (.S (N.c (BE c b).v))=L:=Mo xy;have yI:k.Ap f 2=A E:=Ay u.gx 2;have ys:Bv .Cq [.p f 2] X E=L:=Ij xj.gx B;have x5:=(M.M (J.lv xd)).t xx;have yK:=(M.M (J.lv xe)).t x7;let⟨p,xn,xJ,g⟩:=PR x5 (Cr u.M.o).2
  have yG:f≠i:=by grind
  have yH:f≠x:=by grind
  have yx:y≠i:=by grind
  have xz:p.M f=k.M f:=by rw[g,AN,Ad yG]
  have yt:Bv .Cq [.p f 2] p E=L:=Ij (xz.t u.gx) B;have yr:Bv (.ld 2) [.p y 0] p (.S (N.c (BE c b).v))=L:=Mo (by rw[g,AN,Ad yx];grind);let⟨U,yB,yD,xb⟩:=Gy (b:=p) (a:=x) (f:=[.i .u8 0,.n 0]) (by rw[g,AN,Ad xf.symm];grind) (BE c b).v
  have yu:Bv .Cq [.p f 2] U E=L:=Ij (by rw[xb,AN,Ad yH];exact xz.t u.gx) B;have yz:U.AL i 0 1=A [xo]:=BB (by rw[xb,AN,Ad xf,g,AN,Af B]);have xF:∀a,a≠i->a≠x->U.M a=k.M a:=λa W r=>by rw[xb,AN,Ad r,g,AN,Ad W]
  have yO:∀a,Lv U a=Lv k a:=by grind
  refine⟨xo,E,xu,xM,U,AZ B B ?_,?_,?_,?_,?_,?_⟩;.rw[yb]at xk;rw[UR.1];simp only[↓xN,↓xO,↓xP,↓xQ,↓Q,↓QT,AdM,↓H xK,↓H xv,Int.reduceEq,UR.2.1,↓H xI,↓H xk];rw[xm,xl];simp only[↓Q,↓QT,AdM,↓H xL,UR.2.2,↓H S,↓H yA,yq,↓Lq,↓H yI,ys,↓H xn,yt,yr,↓H yB,yu,↓H yz,↓H yD];rfl
  .rw[xb,g];exact(((xt.AI M).Gw xD _).Gw xE _)
  .exact u.M.Ar λa e xc=>⟨xF a (λo=>by subst o;exact(n _ xd).2.2 (.j (.i xc))) (λo=>by subst o;exact(n _ xe).2.2 (.j (.i xc))),by grind⟩
  .exact u.ot.Ar λa e xC=>⟨xF a (λo=>by subst o;exact(n _ xd).2.2 (.j (.j xC))) (λo=>by subst o;exact(n _ xe).2.2 (.j (.j xC))),by grind⟩
  .intro a e;have:=(n a (xh.lv e)).2.2;exact⟨λs=>this (.j (.i s)),AdS λs=>this (.j (.j s))⟩
  .exact xi.tm
def Ee:D->C K->C Bx
 |_,[]=>[]
 |a,c::b=>⟨.n c,.n (a:K),a⟩::Ee (a+1) b
def eM(c:K):∀(b:C K)(a:D),Ee a (b++[c])=Ee a b++[⟨.n c,.n ((a+b.l:D):K),a+b.l⟩]
 |[],a=>rfl
 |d::b,a=>by show _::Ee (a+1) (b++[c])=_::(Ee (a+1) b++_);rw[eM c b (a+1),Aec,show a+1+b.l=a+(b.l+1) by omega]
def nL(a b:K):Jr Aa [0] (.n a) (.n b)=A (a==b):=by rw[<-Kz];show JO (A (Ju a b)) (A L)=_;cases Ju a b<;>rfl
def ZU(a:K):∀(b:C K)(c d:D),(b.idxOf a=b.l->Gs Aa [0] (.n a) (Ee c b) d=A O)/\(b.idxOf a<b.l->∃f:Bx,Gs Aa [0] (.n a) (Ee c b) d=A (A (d+b.idxOf a,f))/\f.Eo=.n ((c+b.idxOf a:D):K))
 |[],c,d=>⟨λ_=>rfl,λg=>by cases g⟩
 |e::b,c,d=>by
  have i:=ZU a b (c+1) (d+1);have o:Gs Aa [0] (.n a) (Ee c (e::b)) d=Aj (a==e) (A (A (d,(⟨.n e,.n (c:K),c⟩:Bx)))) (Gs Aa [0] (.n a) (Ee (c+1) b) (d+1)):=by show@Option.casesOn Ah (λ_=>Ae (Ae (D×Bx))) (Jr Aa [0] (.n a) (.n e)) O (λj=>Aj j (A (A (d,(⟨.n e,.n (c:K),c⟩:Bx)))) (Gs Aa [0] (.n a) (Ee (c+1) b) (d+1)))=_;rw[nL]
  rw[o,List.idxOf_cons,Aec];by_cases h:e=a;.subst h;rw[Afq];exact⟨λg=>(by simp at g),λ_=>⟨_,B,B⟩⟩
  .have k:(a==e)=Aa:=by simpa usingλf=>h f.s
   have l:(e==a)=Aa:=by simpa using h
   rw[k,l];simp only[cond_false];refine⟨λg=>i.1 (by omega),λg=> ?_⟩;obtain⟨f,m,n⟩:=i.2 (by omega);exact⟨f,by rw[m,show d+1+b.idxOf a=d+(b.idxOf a+1) by omega],by rw[n,show c+1+b.idxOf a=c+(b.idxOf a+1) by omega]⟩
def tv{b:C K}{h:D}(m:d.M e=A (.Bn (Ee 0 b) h))(c:K):EP Aa [0] (.n 0) L d [.m e,.n c]=A (if b.idxOf c=b.l then .AB [.n 0,.b Aa]else .AB [.n ((b.idxOf c:D):K),.b L]):=by
 have g:=ZU c b 0 0;have n:O_ d (.m e)=A (Ee 0 b):=by show(match HQ (d.M e)with|some (k,_)=>A k|none=>O)=_;rw[m];rfl
 have o:Lw Aa [0] (.n c) (Ee 0 b)=Gs Aa [0] (.n c) (Ee 0 b) 0:=B;unfold EP;simp only[n,o];by_cases f:b.idxOf c=b.l;.rw[g.1 f,Af f];rfl
 .obtain⟨p,i,j⟩:=g.2 (by have:=List.idxOf_le_length (l:=b) (a:=c);omega);rw[i,Ad f];simp only[j,Ad2];rfl
def uj{a:C K}{c:D}(g:d.M e=A (.Bn (Ee 0 a) c)){b:K}(h:a.idxOf b=a.l):G9 Aa [0] (.n 0) d [.m e,.n b]=A (.AB [.n 0,.n (c:K)],d.set e (.Bn (Ee 0 a++[⟨.n b,.n 0,c⟩]) (c+1))):=by have f:=(ZU b a 0 0).1 h;have i:Lw Aa [0] (.n b) (Ee 0 a)=Gs Aa [0] (.n b) (Ee 0 a) 0:=B;unfold G9;simp only[g,ba,i,f];rfl
def dT(d e:F):∀(b:C K)(a c:D),O5 (a+b.l) (Ee a b++[⟨d,e,a+b.l⟩]) c=A (c+b.l)
 |[],a,c=>by show Aj (AW (a+0) (a+0)) (A c) O=_;rw[Aee];rfl
 |f::b,a,c=>by show Aj (AW a (a+(f::b).l)) (A c) (O5 (a+(f::b).l) (Ee (a+1) b++[⟨d,e,a+(f::b).l⟩]) (c+1))=_;rw[Gm (by rw[Aec];omega),Aec,show a+(b.l+1)=a+1+b.l by omega];show O5 (a+1+b.l) (Ee (a+1) b++[⟨d,e,a+1+b.l⟩]) (c+1)=_;rw[dT d e b (a+1) (c+1),show c+1+b.l=c+(b.l+1) by omega]
def h_(c:Bx->Bx)(b:Bx):∀a:C Bx,Nr c (a++[b]) a.l=a++[c b]
 |[]=>rfl
 |d::a=>by show d::Nr c (a++[b]) a.l=_;rw[h_ c b a];rfl
def eL:∀(a:C K)(b:D),(Ee b a).l=a.l
 |[],_=>rfl
 |c::a,b=>by show(Ee (b+1) a).l+1=_;rw[eL a];rfl
def nQ{c:T}{a:C K}{d:K}(i:b.M c=A (.Bn (Ee 0 a++[⟨.n d,.n 0,a.l⟩]) (a.l+1))):Hn b [.m c,.n (a.l:K),.n (a.l:K)]=A (AC,b.set c (.Bn (Ee 0 (a++[d])) (a++[d]).l)):=by have f:=dT (.n d) (.n 0) a 0 0;rw[Ad2]at f;have g:=h_ (VM (.n (a.l:K))) ⟨.n d,.n 0,a.l⟩ (Ee 0 a);rw[eL]at g;show(match Ox (b.M c)with|some (e,h)=>(match O5 a.l e 0 with|some j=>A (AC,b.set c (.Bn (Nr (VM (.n (a.l:K))) e j) h))|none=>O)|none=>O)=_;rw[i];simp only[ba,f,Ad2,g];rw[eM,AdY,AeE,Ad2];rfl
