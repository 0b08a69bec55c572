/- Part of the proof. -/
import Derived.Test.YtmnfpdedgnfeiaaGreatMbd
set_option linter.all false
noncomputable section
open Option renaming some->A,none->O,bind->Option.b
open _root_ renaming rfl->B,List->C,Nat->D,Int->K,if_neg->Ad,if_pos->Af,Option->Aj,Bool->Ak,cond->An,decide_eq_false->Ba,decide_eq_true->Be
open Bool renaming true->L,false->Ac
open Decidable renaming decide->Au
open Nat renaming beq->Bb,ble->Co,le_refl->C6
open List renaming replicate->Bv,length->List.l,map->List.m,take->List.t,drop->List.d,toArray->List.a,flatMap->List.f
open Go.IntKind renaming i64->Go.IntKind.n
open Array renaming toList->Array.l
open Eq renaming trans->Eq.t,symm->Eq.s
open Or renaming inl->Or.i,inr->Or.j
open Int renaming toNat->Int.n
namespace Go.Proofs.YtmnfpdedgnfeiaaGreat
open Go.Fg
def OO(g:Aa)(e d:F)(b f:D->F)(c:D)(a:Aa):Prop:=a=g\/Ck e b f c a\/¬AE d a
variable{k l:F}
def FF.Av{i:C _}{n:C BM}{c:Aa}{e m:D->F}{f g:G}(a:FF i n c l k e m f)(d:∀b,Lv f b->OO c l k e m i.l b->g.N b=f.N b/\Lv g b):FF i n c l k e m g where
 M:=a.M.Av λj h o=>d j h (.j (.i o))
 ot:=a.ot.Av λj h p=>d j h (.j (.j p))
 gx:=(d c a.lx (.i B)).1.t a.gx
 lx:=(d c a.lx (.i B)).2
 nx:=a.nx
 tx:=a.tx
 tm:=a.tm
variable{b c:G}
def FF.ext{d:C _}{f:C BM}{i:Aa}{g e:F}{a h:D->F}(j:FF d f i g e a h b)(k:AR b c):FF d f i g e a h c:=j.Av λm l _=>k m l
variable{d:G}
def FF.lvs{e:C _}{k:C BM}{j:Aa}{h g:F}{c i:D->F}(b:FF e k j h g c i d){f:Aa}(a:OO j h g c i e.l f):Lv d f:=by
 rcases a with rfl|a|a;.exact b.lx
 .exact b.M.lv a
 .exact b.ot.Dh a
def box(a:G)(d:Ce):∃c b,a.next=c/\a.V d=b/\AR a b/\b.N c=A d/\Lv b c/\¬Lv a c:=⟨_,_,B,B,AR.V _ _,I8 _ _,GD _ _,FO _⟩
variable{e:Aa}
def K2(a:G)(c:M)(g:a.next=e)(f:a.V (.I 2 (M.c c))=d)(b:F->G->R):bl (.p a.next 0) (a.V (.I (BK (F.I (.S (M.c c)))) (F.I (.S (M.c c))))) b=b (.p e 0) d:=Em a _ g f b
def J2(a:G){d:Aa}(f:a.next=d)(e:a.V (.I 2 [.i .u8 0,.n 0])=c)(b:F->G->R):bl (.p a.next 0) (a.V (.I 2 [.i .u8 0,.n 0])) b=b (.p d 0) c:=Em a _ f e b
variable{n:D->F}
def is{g:C AG}(xs:Gn g){xC:C BM}{t:Aa}{J xB:F}{xD:D->F}{j:G}(xh:FF g xC t J xB n xD j)(d c:M)(xc:Ll g d):(Dp g d c=Ac->∃o,W9 (Ar 242) [.p t 0,.S (M.c d),.S (M.c c)] j=A (.pn,o)/\AR j o)/\(Dp g d c=L->∃(e i:D)(h:AG)(u:M)(T:Aa)(o:G),d.n=e/\g[e]? =A h/\c.n=i/\h.I[i]? =A u/\FI g d c=u/\G_ g d.n=A h/\AZ 2 [n e,.n i]=A (.p T (i*2))/\W9 (Ar 242) [.p t 0,.S (M.c d),.S (M.c c)] j=A (.p T (i*2),o)/\AR j o):=by
 let⟨xL,Z,xt,xq,xg,xl,xx,_⟩:=box j (.I 2 (M.c d))
 let⟨xM,k,xu,xr,N,Y,xK,_⟩:=box Z (.I 2 (M.c c))
 have xE:=K2 j d xt xq;have xF:=K2 Z c xu xr;have l:=xg.AQ N;have v:=xh.ext l;have X:=(N.N xx).t xl;have P:=AJ X 0;have R:=AJ X 1;have U:=AJ Y 0;have V:=AJ Y 1;have xf:k.AA t 0=A J:=AJ v.gx 0;by_cases q:d.Ai=4
 .by_cases y:c.Ai=1
  .let⟨h,E⟩:=xc q
   let⟨e,xm,s⟩:=OG E
   have xn:e<g.l:=by grind
   have xI:=xs.at s;let⟨m,xJ,_,I,_,_⟩:=v.M.at xn
   have xv:AZ 2 [J,.n d.n]=A (.p m (e*2)):=by grind
   have xk:Bt 0 [.p m (e*2)]=A (.p m (e*2)):=B;have xy:AW k [.p m (e*2)]=A (n e):=I;have xe:=v.M.c e h s;have xz:=C4 xe;have xj:=Gu (a:=h.I.l) (b:=1) (by omega) (by omega);have r:=O7 c.n 0 (h.I.l-1);have p:Dp g d c=BY c.n 0 (h.I.l-1):=by unfold Dp Qf;rw[E,Be q,Be y];rfl
   have xA:k.AA m (e*2)=A (n e):=I;rw[p];constructor;.intro z;rw[z]at r;refine⟨k,Bd B B ?_,l⟩;rw[Wc.1];simp only[QY,r.H B,QB, *]
   .intro z;have xp:Dp g d c=L:=by grind
    let⟨x,i,xN,u,xG,xb,xa,xd,xo,_,_,xH⟩:=O1 xc xp
    have:x=e:=by omega
    subst this;rw[s]at xb;cases xb;rw[z]at r;let⟨W,S⟩:=Dm (f:=M.c) (w:=2) (λ_=>B) xe xd
    have xw:AZ 2 [n x,.n c.n]=A (.p W (i*2)):=by rw[xa];exact S.ia
    refine⟨x,i,h,u,W,k,xm,s,xa,xd,xo,E,S.ia,Bd B B ?_,l⟩;rw[Wc.1];simp only[↓xE,↓xF,↓Q,↓QT,Aic,↓H P,↓H U,q,y,↓H V,↓H xf,↓H R,↓H xv,↓H xk,↓H xy,↓H xz,↓H xj,↓r.H B,QS,QB,↓MP,↓VA,P,R,U,V,xf,xA,I,Wc.2,↓H xw]
  .have p:Dp g d c=Ac:=by unfold Dp;rw[Ba y,AjA,Bool.and_false]
   rw[p];refine⟨λ_=>⟨k,Bd B B ?_,l⟩,λxi=>by grind⟩;rw[Wc.1];simp only[QY,QB, *]
 .have p:Dp g d c=Ac:=by unfold Dp;rw[Ba q,AjA]
  rw[p];refine⟨λ_=>⟨k,Bd B B ?_,l⟩,λxi=>by grind⟩;rw[Wc.1];simp only[QY,QB, *]
def AR.G7{a:G}(e:AR a b){c:Aa}(g:¬Lv a c)(d:Ce):AR a (b.set c d):=λh f=>⟨by rw[AY,Ad P];grind,by grind⟩
def Ha{a:Aa}{f:C F}(e:b.N a=A (.I 2 f))(d:M):∃c,A1 2 b [.p a 0,.S (M.c d)]=A (Ax,c)/\c.AU a 0 2=A (M.c d)/\c=b.set a (.I 2 (M.c d)):=⟨_,Ho e B B,B2 (by rw[AY,Af B]),B⟩
def tV{c:C AG}(xc:Gn c){W:C BM}{t:Aa}{X V:F}{w Y:D->F}(v:FF c W t X V w Y b)(a:M)(Q:Ll c a):∃o,W9 (Ar 210) [.p t 0,.S (M.c a)] b=A (.S (M.c (HI c a)),o)/\AR b o:=by
 let⟨xi,p,N,H,j,x,S,xh⟩:=box b (.I 2 (M.c a))
 let⟨xj,xa,P,I,k,z,xe,T⟩:=box p (.I 2 [.i .u8 0,.n 0])
 have xm:=K2 b a N H;have xn:=J2 p P I;have i:=j.AQ k;have g:=v.ext i;have y:=(k.N S).t x;have xk:=y;have xl:=g.gx;let⟨q,f,e,n⟩:=Ha z (HI c a)
 have u:AR b q:=by rw[n];exact i.G7 (λR=>T (j.lv R)) _
 refine⟨q,Bd B B ?_,u⟩;clear n;unfold HI at f e⊢;by_cases h:a.Ai=4
 .let⟨s,r⟩:=Q h
  let⟨d,xb,J⟩:=OG r
  have E:d<c.l:=by grind
  let⟨l,xd,_,U,_,_⟩:=g.M.at E
  have Z:Bt 0 [.p l (d*2)]=A (.p l (d*2)):=B;have xf:=U;have xg:=C4 (g.M.c d s J);rw[Ad (by grind),Af h,r]at f e⊢;rw[Y7.1];simp only[QY,(ce s.I.l).H B, *]
 .by_cases m:a.Ai=5;.rw[Af m]at f e⊢;rw[Y7.1];simp only[QY,Int.reduceEq, *]
  .rw[Ad m,Ad h]at f e⊢;rw[Y7.1];simp only[QY,Y7.2,(O8 5).H B, *]
def WZ:∀{h:C _}{c:D}{d:AG},h[c]? =A d->∀b:AG,BZ (h.set c b)+d.AV.l=BZ h+b.AV.l
 |[],c,d,g,_=>by grind
 |f::e,0,d,g,b=>by
  cases g
  show b.AV.l+BZ e+f.AV.l=f.AV.l+BZ e+b.AV.l;omega
 |f::e,c+1,d,g,b=>by show f.AV.l+BZ (e.set c b)+d.AV.l=f.AV.l+BZ e+b.AV.l;have:=WZ (h:=e) (c:=c) (by simpa using g) b;omega
structure Js(b:G)(d:Aa)(k i:F)(e m:D->F)(g:D)(c:G)(l j:F)(f n:D->F)(h:D):Prop where
 fr:∀a,Lv b a->¬OO d k i e m g a->c.N a=b.N a/\Lv c a/\¬OO d l j f n h a
def Js.ext{h:Aa}{f e:F}{a g:D->F}{d:D}(i:AR b c):Js b h f e a g d c f e a g d:=⟨P⟩
theorem bC(a:Aa)(b:D):GO L [.p a b,.pn]=A (.b L):=rfl
theorem TP:GO L [.pn,.pn]=A (.b Ac):=rfl
theorem hi(a:Aa)(b:D):GO Ac [.p a b,.pn]=A (.b Ac):=rfl
theorem rA:GO Ac [.pn,.pn]=A (.b L):=rfl
variable{p:F}{r:G}
def tU{c:C AG}(x0:Gn c)(yW:BZ c<=6000){xL:C BM}{k:Aa}{q:F}{I y:D->F}(s:FF c xL k p q I y r)(h d:M)(g:K)(x1:Ll c h):∃xo xk xp Y,W9 (Ar 209) [.p k 0,.S (M.c h),.S (M.c d),.n g] r=A (.AC [.S (M.c (Ds c h d g).2.1),.n (Ds c h d g).2.2],Y)/\FF (Ds c h d g).1 xL k xo q xk xp Y/\Js r k p q I y c.l Y xo q xk xp (Ds c h d g).1.l:=by
 let⟨yI,xv,yu,yr,xM,yl,xH,y2⟩:=box r (.I 2 (M.c h))
 let⟨yJ,xw,yv,ys,xi,ym,x7,y3⟩:=box xv (.I 2 (M.c d))
 let⟨xb,xY,yw,yt,xc,xV,xJ,yH⟩:=box xw (.I 2 [.i .u8 0,.n 0])
 have S:=K2 r h yu yr
 have T:=K2 xv d yv ys
 have U:=J2 xw yw yt
 have xq:=xM.AQ (xi.AQ xc)
 have x8:=λxa=>yH (xi.lv (xM.lv xa))
 have xO:=s.ext xq
 have xt:=((xi.AQ xc).N xH).t yl
 have xu:=(xc.N x7).t ym
 have x6:=(xi.AQ xc).lv xH
 have xI:=xc.lv x7
 let⟨yB,yC⟩:=is x0 xO h d x1
 have J:∀{t:G}(j:AR xY t)(xg:M)(l:K),(∀n,A1 2 t [.p xb 0,.S (M.c xg)]=A (Ax,n)->n.AU xb 0 2=A (M.c xg)->xx W9 209 [.p k 0,.S (M.c h),.S (M.c d),.n g] r=A (.AC [.S (M.c xg),.n l],n))->Ds c h d g=(c,xg,l)->∃xo xk xp Y,W9 (Ar 209) [.p k 0,.S (M.c h),.S (M.c d),.n g] r=A (.AC [.S (M.c (Ds c h d g).2.1),.n (Ds c h d g).2.2],Y)/\FF (Ds c h d g).1 xL k xo q xk xp Y/\Js r k p q I y c.l Y xo q xk xp (Ds c h d g).1.l:=λj xg l xa yj=>by
  let⟨n,x,u,yg⟩:=Ha ((j.N xJ).t xV) xg
  have xN:AR r n:=by rw[yg];exact(xq.AQ j).G7 x8 _
  rw[yj];exact⟨p,I,y,n,Bd B B (xa n x u),s.ext xN,Js.ext xN⟩
 cases xj:Dp c h d with
 |false=>
  let⟨t,xU,j⟩:=yB xj
  have yS:=AJ ((j.N x6).t xt) 0;have yT:=AJ ((j.N xI).t xu) 0;have y6:=B2 ((j.N x6).t xt);have y7:=B2 ((j.N xI).t xu);have yc:=xq.AQ j;have z:=YK h;have W:=YK d;have xR:=O8 3;have xS:=O8 5;by_cases E:h.Ai=5;.refine J j h 0 (λn x u=> ?_) (by unfold Ds;rw[Af E]);rw[Be E]at z;rw[Le.1];simp only[QY,S,T,U,TP,QB,z.H B, *]
  rw[Ba E]at z;by_cases X:d.Ai=5;.refine J j d 0 (λn x u=> ?_) (by unfold Ds;rw[Ad E,Af X]);rw[Be X]at W;rw[Le.1];simp only[QY,S,T,U,TP,QB,z.H B,W.H B, *]
  rw[Ba X]at W;by_cases xe:h.Ai=3;.refine J j (D2 3) 0 (λn x u=> ?_) (by unfold Ds;rw[Ad E,Ad X,Af xe]);rw[Le.1];simp only[QY,S,T,U,TP,QB,z.H B,W.H B,xe,Le.2.2,xR.H B, *]
  by_cases xs:h.Ai=4
  .by_cases xB:d.Ai=1;.refine J j (D2 3) 0 (λn x u=> ?_) (by unfold Ds;rw[Ad E,Ad X,Ad xe,Ad (by grind),Af xj]);rw[Le.1];simp only[QY,S,T,U,Int.reduceEq,TP,QB,z.H B,W.H B,xs,xB,Le.2.2,xR.H B, *]
   .refine J j (D2 5) 0 (λn x u=> ?_) (by unfold Ds;rw[Ad E,Ad X,Ad xe,Af (Or.inr xB)]);rw[Le.1];simp only[QY,S,T,U,Int.reduceEq,TP,QB,z.H B,W.H B,xs,xB,Le.2.2,Le.2.1,xS.H B, *]
  .refine J j (D2 5) 0 (λn x u=> ?_) (by unfold Ds;rw[Ad E,Ad X,Ad xe,Af (Or.inl xs)]);rw[Le.1];simp only[QY,S,T,U,Int.reduceEq,TP,QB,z.H B,W.H B,xe,xs,Le.2.2,Le.2.1,xS.H B, *]
 |true=>
  let⟨m,xa,i,xh,ye,t,yp,xn,yV,x2,yq,yy,yz,xU,j⟩:=yC xj
  let⟨_,_,_,_,_,_,_,_,_,y0,yZ,_⟩:=O1 x1 xj
  have yU:m<c.l:=by grind
  have yX:=x0.at xn;have V:=xO.ext j;have yc:=xq.AQ j;have N:Ds c h d g=if xh.Ai≠0 then(c,xh,0)else if 6000<=BZ c then(c,AK,5)else(Jk c h.n (λi=>⟨i.I,i.AV++[⟨d.n,g⟩]⟩),AK,0):=by unfold Ds;rw[Ad (by grind),Ad (by grind),Ad (by grind),Ad (by grind),xj,Ad (by grind),yq]
  let⟨xQ,xP⟩:=Dm (f:=M.c) (w:=2) (λ_=>B) (V.M.c m i xn) x2
  have:xQ=ye:=by have:=xP.ia;rw[yz]at this;cases this;rfl
  subst this;have yN:t.AU xQ (xa*2) 2=A (M.c xh):=xP.AU (f:=M.c) (λ_=>B) x2;have xl:=VU xh;by_cases xC:xh.Ai=0
  .rw[Be xC]at xl;rw[Ad Om]at N;have yR:t.AA k 1=A (.n (BZ c)):=AJ V.gx 1;have yQ:t.AA k 0=A p:=AJ V.gx 0;have xE:=Cz .n (BZ c) 6000;by_cases xT:6000<=BZ c;.rw[Be Om]at xE;rw[Af xT]at N;refine J j AK 5 (λn x u=> ?_) N;rw[Le.1];simp only[QY,bC _ _,QB,xl.H B,QE, *]
   .rw[Ba Om]at xE;rw[Ad xT]at N;have yx:(Jk c h.n λi=>⟨i.I,i.AV++[⟨d.n,g⟩]⟩)=c.set m ⟨i.I,i.AV++[⟨d.n,g⟩]⟩:=by unfold Jk;rw[yy];simp only[];rw[yp];rfl
    rw[yx]at N;rw[N];let⟨ya,xr,n,Z,yD,yY,yM,yO,yd,x3⟩:=V.M.fp xn (by omega) ⟨d.n,g⟩
    have x5:=x3 k V.lx V.nx;have xW:=x5.2.2.1.t V.gx;have xD:=GJ (a:=(BZ c)) (b:=1) (by omega) (by omega);have yo:BZ (c.set m ⟨i.I,i.AV++[⟨d.n,g⟩]⟩)=BZ c+1:=by have:=WZ xn ⟨i.I,i.AV++[⟨d.n,g⟩]⟩;rw[Aio]at this;simp only[Ajg]at this;omega
    rw[show(BZ c)+1=(BZ (c.set m ⟨i.I,i.AV++[⟨d.n,g⟩]⟩):K) by omega]at xD;have xz:=G9 (d:=1) (a:=.n (BZ (c.set m ⟨i.I,i.AV++[⟨d.n,g⟩]⟩))) xW (by omega) (by omega) B B;rw[(Uv _ _ _ _).2.1]at xz;generalize BZ (c.set m ⟨i.I,i.AV++[⟨d.n,g⟩]⟩)=xd at yo xD xz;have yf:t.AA yJ 1=A (.n d.n):=AJ ((j.N xI).t xu) 1;have yA:AZ 2 [p,.n h.n]=A (.p xr (m*2)):=by grind
    have yk:Bt 1 [.p xr (m*2)]=A (.p xr (m*2+1)):=B;have yF:AW t [.p xr (m*2+1)]=A (y m):=yM;have yi:BE [(.n 0),(.n 0)] [(0,1),(1,1)] [.n d.n,.n g]=A (.S (BU.c ⟨d.n,g⟩)):=B;have yE:=j.lv xJ;have yK:¬Ck p I y c.l xb:=λxa=>x8 (s.M.lv xa);have x4:=x3 xb yE yK;have yb:k≠xb:=by grind
    have xK:∀e,e≠k->(Z.set k (.I 3 [p,.n xd,q])).N e=Z.N e:=λe R=>by rw[AY,Ad R]
    have xX:(Z.set k (.I 3 [p,.n xd,q])).N k=A (.I 3 [p,.n xd,q]):=by rw[AY,Af B]
    have yG:∀e,Lv (Z.set k (.I 3 [p,.n xd,q])) e=Lv Z e:=by grind
    generalize Z.set k (.I 3 [p,.n xd,q])=xZ at xz xK xX yG;have yn:=(xK xb (λl=>yb l.s)).t (x4.2.2.1.t ((j.N xJ).t xV));let⟨xm,yP,yL,yh⟩:=Ha yn AK
    have x9:∀e,e≠xb->xm.N e=xZ.N e:=λe R=>by rw[yh,AY,Ad R]
    have y1:∀e,Lv xm e=Lv xZ e:=by grind
    have xF:(c.set m ⟨i.I,i.AV++[⟨d.n,g⟩]⟩).l=c.l:=by grind
    have xA:∀e,Lv r e->¬Ck p I y c.l e->e≠k->xm.N e=r.N e/\Lv xm e/\¬Ck p I (Cf y m ya) c.l e:=by grind
    have y4:=x4.2.2.2.2;have y5:=x5.2.2.2.2;refine⟨p,I,Cf y m ya,xm,Bd B B ?_,?_,⟨λe R xG=> ?_⟩⟩;.rw[Le.1];simp only[↓S,↓T,↓U,↓Q,↓QT,Aic,↓H (B2 xt),↓H (B2 xu),↓H xU,↓H (bC _ _),QB,↓H yN,↓xl.H B,↓H yR,↓H xE,↓H yQ,↓H (AJ ((j.N ((xi.AQ xc).lv xH)).t xt) 1:t.AA yI 1=A (.n h.n)),↓H yA,↓H yk,↓H yF,↓H yf,↓H yi,↓yD,↓H yO,↓H (AJ xW 1:Z.AA k 1=A (.n (BZ c))),↓H xD,↓H xz,↓YG.H B,↓H yP,↓H yL]
    .exact{
     M:=yd.Av λe R xy=>by rw[xF]at xy;exact⟨(x9 e (λl=>by grind)).t (xK e (λl=>by grind)),by grind⟩
     ot:=s.ot.Av λe R xf=>by have:=xA e R (s.tm e xf) (λl=>xf (l▸s.tx));grind
     gx:=by rw[x9 k yb,xX,show xd=(BZ (c.set m ⟨i.I,i.AV++[⟨d.n,g⟩]⟩)) by have:=WZ xn ⟨i.I,i.AV++[⟨d.n,g⟩]⟩;rw[Aio]at this;simp only[Ajg]at this;omega]
     lx:=by grind
     nx:=by grind
     tx:=s.tx
     tm:=λe xf=>by rw[xF];exact(xA e (s.ot.Dh xf) (s.tm e xf) (λl=>xf (l▸s.tx))).2.2}
    .have xv:=λl=>xG (.i l);have xw:=λl=>xG (.j (.i l));have xY:=Aih λl=>xG (.j (.j l));have:=xA e R xw xv;refine⟨P,P,λxy=> ?_⟩;rw[xF]at xy;rcases xy with l|l|l<;>grind
  .rw[Ba xC]at xl;rw[Af xC]at N;refine J j xh 0 (λn x u=> ?_) N;rw[Le.1];simp only[QY,S,T,U,bC _ _,QB,xl.H B, *]
def be(a b:F):Aj F:=
 (A7 .and [a,(.i .u64 4294967295)]).b λc=>
 (A7 .shr [a,(.i .u64 32)]).b λd=>
 (A7 .and [b,(.i .u64 4294967295)]).b λe=>
 (A7 .shr [b,(.i .u64 32)]).b λf=>
 (A7 .mul [c,e]).b λo=>
 (A7 .mul [d,e]).b λp=>
 (A7 .shr [o,(.i .u64 32)]).b λq=>
 (A7 .add [p,q]).b λg=>
 (A7 .and [g,(.i .u64 4294967295)]).b λr=>
 (A7 .shr [g,(.i .u64 32)]).b λs=>
 (A7 .mul [c,f]).b λh=>
 (A7 .add [r,h]).b λi=>
 (A7 .mul [d,f]).b λj=>
 (A7 .add [j,s]).b λk=>
 (A7 .shr [i,(.i .u64 32)]).b λl=>
 (A7 .add [k,l]).b λm=>
 (A7 .mul [a,b]).b λn=>
 A (.AC [m,n])
def AcH(d:Bh)(a b:F)(c:G):xx d 247 [a,b] c=(be a b).b λe=>A (e,c):=by rw[wB];unfold be;simp only[Option.bind_assoc,Aig]
def cP(c:K):Aj F->Ak
 |some (.AC [.i .u64 a,.i .u64 b])=>a==0&&b==c
 |_=>Ac
def vu{a:K}{b:Aj _}(c:cP a b=L):b=A (.AC [.i .u64 0,.i .u64 a]):=by unfold cP at c;grind
def nW:((List.range 101).all λa=>cP a (be (.i .u64 1) (.i .u64 a)))=L:=by kernel_rfl
variable{a:D}
def uj(b:a<=100):A2 247 [.i .u64 1,.i .u64 a] (.AC [.i .u64 0,.i .u64 a]):=BP B B B ⟨G.Az,by rw[AcH,vu (AiP.1 nW a P)];rfl⟩
def ui(b:a<=100):A2 245 [.i .u64 1,.i .u64 a] (.AC [.i .u64 0,.i .u64 a]):=BP B B B (by refine⟨G.Az,?_⟩;rw[jK.1];simp only[QY,QB,jK.2,(uj b).H B])
def hz(a:D):C F:=(Bv a AK).f M.c
def i_(a:D):(hz a).l=a*2:=by unfold hz;rw[N2 (f:=M.c) (w:=2) (λ_=>B),AjD]
def cI(a b:D):hz (a+b)=hz a++hz b:=by unfold hz;rw[<-List.replicate_append_replicate,Aks]
def i9(a:D):Ct (hz a)=L:=by
 rw[EC]
 unfold hz
 induction a with
 |zero=>rfl
 |succ a b=>rw[AjC,AiV,Ajm,b];rfl
variable{g:Aa}
def nf{b:D}(i:d.N g=A (.I (b*2) (hz b))){c:D}(l:c+a<=b):∃h,d.EY g (c*2) (a*2) (hz a)=A h/\(∀e,h.N e=d.N e)/\∀e,Lv h e=Lv d e:=by
 have j:d.EY g (c*2) (a*2) (hz a)=A (d.set g (.I (b*2) (hz b))):=by
  rw[L8 (by rw[i];rfl),Af (by omega)];congr 3;split;.grind
  .obtain⟨f,k⟩:∃f,b=c+(a+f):=⟨b-c-a,by omega⟩;rw[k,cI c (a+f),cI a f];have:=Za (hz a) (hz c) (hz a++hz f);rw[i_]at this;rw[this,jR _ _ _ B]
 exact⟨_,j,me i,P⟩
def Adm{c:Aa}{b:D}(f:d.N c=A (.I (b*2) (hz b)))(h:a<=b):d.AU c (0+0*2) (a*2)=A (hz a):=by
 rw[EA f,Af (by omega)];congr 1;split;.grind
 .obtain⟨e,g⟩:∃e,b=a+e:=⟨b-a,by omega⟩;rw[g,cI];rw[AiE,<-i_ a,List.take_left]
def Aem(c:Aa){b:D}(d:D)(e:a<=b):Hz 2 L Ac [.Z c 0 b d 2,.n a]=A (.Z c (0+a*2) (b-a) (NY d a) 2):=by show An (Bb 2 2) (match(An (Co a b) (A (a,b)) O)with|some (f,e)=>A (F.Z c (0+f*2) (e-f) (NY d f) 2)|none=>O) O=_;rw[Air e];rfl
def Ael(c:Aa){b:D}(d:b<=a):Hz 2 Ac L [.Z c 0 a (a+1) 2,.n b]=A (.Z c (0+0*2) (b-0) (NY (a+1) 0) 2):=by show An (Bb 2 2) (match(An (Co b a) (A (0,b)) O)with|some (e,d)=>A (F.Z c (0+e*2) (d-e) (NY (a+1) e) 2)|none=>O) O=_;rw[Air d];rfl
def qX{d:Aa}{b:D}(i:c.N d=A (.I (b*2) (hz b))){g h:D}(r:a<b)(s:0<a):∃e,G1 2 c [.Z d (0+a*2) (b-a) g 2,.Z d (0+0*2) (a-0) h 2]=A (.n (min a (b-a):D),e)/\(∀f,e.N f=c.N f)/\∀f,Lv e f=Lv c f:=by
 let⟨e,m,p,q⟩:=nf i (c:=a) (a:=min a (b-a)) (by omega)
 refine⟨e,?_,p,q⟩;have j:min a (b-a)≠0:=by omega
 have n:HO c 2 (min a (b-a)) (.Z d (0+0*2) (a-0) h 2)=A (hz (min a (b-a))):=by show An _ _ O=_;rw[Air (by omega),G0 j];exact Adm i (by omega)
 show(match HO c 2 (min a (b-a)) (.Z d (0+0*2) (a-0) h 2)with|some l=>An (Ct l) (RJ c 2 (min a (b-a)) l (.Z d (0+a*2) (b-a) g 2)) O|none=>O)=_;rw[n];show An (Ct (hz (min a (b-a)))) (RJ c 2 (min a (b-a)) (hz (min a (b-a))) (.Z d (0+a*2) (b-a) g 2)) O=_;rw[i9];show An (Bb 2 2) (An (Bb (min a (b-a)) 0) (A (F.n 0,c)) (match c.EY d (0+a*2) (min a (b-a)*2) (hz (min a (b-a)))with|some e=>A (F.n (Int.ofNat (min a (b-a))),e)|none=>O)) O=_;rw[G0 j,Aix,m];rfl
def j5{f:Aa}{d:D}(t:d<=100):∀h c g,d-c<=h->0<c->c<=d->g.N f=A (.I (d*2) (hz d))->∃i,jj W9 241 2 [.n c,.Z f 0 d (d+1) 2] g=A (.Z f 0 d (d+1) 2,i)/\(∀e,i.N e=g.N e)/\∀e,Lv i e=Lv g e
 |h,c,g,y,q,n,m=>by
  by_cases o:c=d;.subst o;have k:=Dz c;refine⟨g,?_,P,λ_=>B⟩;rw[Po.2.2.2.2.1];simp only[QY,Po.2.2.2.1, *]
  .have k:(c:K)<(d:K):=by omega
   let⟨r,p,u,v⟩:=qX m (a:=c) (g:=NY (d+1) c) (h:=NY (d+1) 0) (by omega) q
   have l:=GJ (a:=(c:K)) (b:=((min c (d-c):D):K)) (by omega) (by omega)
   rw[show(c:K)+((min c (d-c):D):K)=((c+min c (d-c):D):K) by omega]at l
   cases h with
   |zero=>omega
   |succ h=>
    let⟨s,x,z,w⟩:=j5 t h (c+min c (d-c)) r (by omega) (by omega) (by omega) ((u f).t m)
    refine⟨s,?_,P,λe=>(w e).t (v e)⟩;rw[Po.2.2.2.2.1];simp only[QY,(B:Ea [.Z f 0 d (d+1) 2]=A (.n (d:K))),k,Po.2.2.2.2.2,Aem f (d+1) n,Ael f n,p,l];grind
def ne{a:K}(b:0<=a)(c:a<=1000000):IW .u64 a=a:=by rw[Ls];have:IntKind.u64.wrap a=a % 18446744073709551616:=B;omega
def Afj{a:K}(b:0<=a)(c:a<=1000000):IW .n a=a:=by rw[Ls];exact OJ (by omega) (by omega)
def VB{d:IntKind}{a:K}(b:0<=a)(c:a<=1000000):Hy .u64 [.i d a]=A (.i .u64 a):=by show A (F.i .u64 (IW .u64 a))=_;rw[ne b c]
def X9{d:IntKind}{a:K}(b:0<=a)(c:a<=1000000):Hy .n [.i d a]=A (.n a):=by show A (F.n (IW .n a))=_;rw[Afj b c]
def ug(z:a<=100){m:F}(J:AF b m M.c 2 [AK]):∃w q,W9 (Ar 241) [m,.n (a:K)] b=A (w,q)/\AF q w M.c 2 (Bv a AK)/\AR b q/\EV b w:=by
 have xi:Ea [m]=A (.n 1):=C4 J;have S:¬(a:K)<0:=by omega
 have Z:=ui z;have T:=VB (d:=.n) (a:=1) (by omega) (by omega);have U:=VB (d:=.n) (a:=(a:K)) (by omega) (by omega);have V:=X9 (d:=.u64) (a:=(a:K)) (by omega) (by omega);have H:=UB b.next a (by omega);have u:=UL b a;have p:AR b (b.V (.I (a*2) ((Bv a AK).f M.c))):=AR.V _ _;have i:(b.V (.I (a*2) ((Bv a AK).f M.c))).N b.next=A (.I (a*2) (hz a)):=I8 _ _;have E:Lv (b.V (.I (a*2) ((Bv a AK).f M.c))) b.next:=by grind
 have N:=J.ext p;have y:∀v,Lv b v->AE (.Z b.next 0 a (a+1) 2) v:=λv xg=>Fe λr=>by subst r;exact FO b xg
 generalize xe:b.next=f at H u i E y;generalize xd:b.V (.I (a*2) ((Bv a AK).f M.c))=e at p i E N u;have W:A7 .gtr [.i .u64 0,.i .u64 0]=A (.b Ac):=by rw[E6];rfl
 have X:A7 .gtr [.i .u64 (a:K),.i .u64 9223372036854775807]=A (.b Ac):=by rw[E6,Ba (by omega)]
 have Y:∃d,G1 2 e [.Z f 0 a (a+1) 2,m]=A (.n (min 1 a:D),d)/\(∀c,d.N c=e.N c)/\∀c,Lv d c=Lv e c:=by
  let⟨d,r,l,Q⟩:=nf i (c:=0) (a:=min 1 a) (by omega)
  rcases N with⟨_,xl⟩|⟨h,x,xh,_,g,_⟩;.grind
  .subst xh;by_cases t:a=0;.subst t;exact⟨e,B,P,P⟩
   .have j:min 1 a=1:=by omega
    rw[j]at r⊢;refine⟨d,?_,l,Q⟩;have s:HO e 2 1 (.Z h 0 1 x 2)=A (hz 1):=by show An (Bb 2 2&&Co 1 1) (An (Bb 1 0) (A []) (e.AU h 0 (1*2))) O=_;show e.AU h 0 (1*2)=_;rw[EA g,Af (by grind),Af (by grind)];rfl
    show(match HO e 2 (min 1 a) (.Z h 0 1 x 2)with|some I=>An (Ct I) (RJ e 2 (min 1 a) I (.Z f 0 a (a+1) 2)) O|none=>O)=_;rw[j,s];show An (Ct (hz 1)) (RJ e 2 1 (hz 1) (.Z f 0 a (a+1) 2)) O=_;rw[i9];show(match e.EY f 0 (1*2) (hz 1)with|some xc=>A (F.n (Int.ofNat 1),xc)|none=>O)=_;grind
 let⟨d,s,l,Q⟩:=Y
 have xa:=(l f).t i;have xb:∃g,jj W9 241 2 [.n (min 1 a:D),.Z f 0 a (a+1) 2] d=A (.Z f 0 a (a+1) 2,g)/\(∀c,g.N c=d.N c)/\∀c,Lv g c=Lv d c:=by
  by_cases t:a=0;.subst t;refine⟨d,?_,P,λ_=>B⟩;have xm:Ea [.Z f 0 0 (0+1) 2]=A (.n 0):=B;show jj W9 241 2 [.n 0,.Z f 0 0 (0+1) 2] d=_;rw[Po.2.2.2.2.1];simp only[QY,Int.lt_irrefl,Po.2.2.2.1, *]
  .have j:min 1 a=1:=by omega
   rw[j];exact j5 z a 1 d (by omega) (by omega) (by omega) xa
 let⟨g,xk,xj,xn⟩:=xb
 have R:AR b g:=λc xf=>⟨(xj c).t ((l c).t (p.N xf)),by grind⟩;refine⟨_,g,Bd B B ?_,u.Av P,R,y⟩;rw[Po.1];simp only[QY,S,Po.2.1,xi,T,U,Z.H B,W,X,QB,Po.2.2.1,V,xe,H,xd,s];grind
def jv(b:K)(c:M):∀a:C _,(Fg b a).l+(Fj b c a).l=a.l
 |[]=>rfl
 |e::a=>by have d:=jv b c a;unfold Fg Fj at d⊢;grind
structure Vd(p:C AG)(f:G)(e:Aa)(l k:F)(o r:D->F)(h:K)(m:M)(j:C BU)(q:C BM)(n:D)(g:D)(i c:F)(b:G):Prop where
 M:Dn b l o r p
 ok:AF b i BU.c 2 (Fg h (j.t g))
 ot:AF b c BM.c 3 (q++Fj h m (j.t g))
 gx:b.N e=A (.I 3 [l,.n ((n:K)-((Fj h m (j.t g)).l:D)),c])
 lx:Lv b e
 d:CF i c
 fk:∀a,Lv f a->a=e\/AE k a->AE i a
 tx:AE c e
 BX:∀a,Lv f a->a≠e->AE k a->b.N a=f.N a/\Lv b a/\AE c a
def AeE{W:C AG}{xf z:D}{n:AG}(x1:W[xf]? =A n)(yj:n.AV.l<=6000)(t:M){xy:C BM}(yl:xy.l<=10000){Y:D}(yg:Y<=6000)(yh:n.AV.l<=Y){x3:K}{T J xJ:Aa}{xA:F}{I:G}{X:F}{Z U:D->F}(xz:Dn I l Z U W)(yp:¬Ck l Z U W.l g)(ys:∀c,¬AE X c->¬Ck l Z U W.l c)(xG:Lv I g)(xU:I.N T=A (.I 2 (M.c ⟨x3,z⟩)))(x4:Lv I T)(x8:T≠g)(xO:AE X T)(xW:I.N J=A (.I 2 (M.c t)))(x5:Lv I J)(x9:J≠g)(xP:AE X J){q:D}(xE:q<n.AV.l){xc xx:F}{j:G}(e:Vd W I g l X Z U z t n.AV xy Y q xc xx j):∃xd k xD,jj W9 208 2 [.n n.AV.l,U xf,.p T 0,.p J 0,.p g 0,.n q,xA,xc,.p xJ 0] j=jj W9 208 2 [.n n.AV.l,U xf,.p T 0,.p J 0,.p g 0,.n (q+1:D),xA,xd,.p xJ 0] xD/\Vd W I g l X Z U z t n.AV xy Y (q+1) xd k xD:=by
 let⟨r,xq⟩:=Bo xE
 let⟨xQ,xj⟩:=Dm (f:=BU.c) (w:=2) (λ_=>B) (e.M.w xf n x1) xq
 have xB:=Dx xE;have xM:j.AU xQ (q*2) 2=A (BU.c r):=xj.AU (f:=BU.c) (λ_=>B) xq;let⟨yr,xZ,xF,x0,E,xl,ym,yo⟩:=box j (.I 2 (BU.c r))
 have xN:∀(p:F->G->R),bl (.p j.next 0) (j.V (.I 2 [.n 0,.n 0])) p=p (.p j.next 0) (j.V (.I 2 [.n 0,.n 0])):=λ_=>B;have xw:A1 2 (j.V (.I 2 [.n 0,.n 0])) [.p j.next 0,.S (BU.c r)]=A (Ax,j.V (.I 2 (BU.c r))):=FL B B;rw[x0]at xw;have xK:=AJ xl 0;have ya:=AJ xl 1;have yb:=B2 xl;have xH:=e.BX T x4 x8 xO;have xI:=e.BX J x5 x9 xP;have xL:=AJ ((E.N xH.2.1).t (xH.1.t xU)) 1;have yc:xZ.AU J 0 2=A (M.c t):=B2 ((E.N xI.2.1).t (xI.1.t xW));have xa:=ju z (n.AV.t q) r;have N:=mW z t (n.AV.t q) r;rw[Gv xq]at xa N;have xm:=(E.N e.lx).t e.gx;have xt:=E.lv e.lx;by_cases xh:r.Cy=z
 .rw[Af xh]at xa N;rw[Aiy]at xa;have xp:=mT z t (n.AV.t q);rw[AiH]at xp;let⟨k,u,xr,xu,xk,xg⟩:=GS (f:=BM.c) (w:=3) (b:=(⟨r.Cq,t⟩:BM)) (o:=.S (BM.c ⟨r.Cq,t⟩)) (h:=24) (λ_=>B) B B (e.ot.ext E) (EI (by grind))
  have xC:=(xk.N xt e.tx).t xm;have yn:=xk.lv xt e.tx;have xS:BE [(.n 0),(.i .u8 0),(.n 0)] [(0,1),(1,2)] [.n r.Cq,.S (M.c t)]=A (.S (BM.c ⟨r.Cq,t⟩)):=B;have ye:=AJ xm 2;have xi:=G9 (d:=2) (a:=k) xC (by omega) (by omega) (CS xu).1 (CS xu).2;rw[(Uv _ _ _ _).2.2]at xi;generalize yi:(Y:K)-((Fj z t (n.AV.t q)).l:D)=s at xi xm xC;have xV:∀c,c≠g->(u.set g (.I 3 [l,.n s,k])).N c=u.N c:=λc h=>by rw[AY,Ad h]
  have xn:(u.set g (.I 3 [l,.n s,k])).N g=A (.I 3 [l,.n s,k]):=by rw[AY,Af B]
  have x6:∀c,Lv (u.set g (.I 3 [l,.n s,k])) c=Lv u c:=by grind
  generalize u.set g (.I 3 [l,.n s,k])=V at xi xV xn x6;have yf:=AJ xn 1;have xT:=Gu (a:=s) (b:=1) (by omega) (by omega);have xv:=G9 (d:=1) (a:=.n (s-1)) xn (by omega) (by omega) B B;rw[(Uv _ _ _ _).2.1]at xv;have xX:∀c,c≠g->(V.set g (.I 3 [l,.n (s-1),k])).N c=V.N c:=λc h=>by rw[AY,Ad h]
  have xY:(V.set g (.I 3 [l,.n (s-1),k])).N g=A (.I 3 [l,.n (s-1),k]):=by rw[AY,Af B]
  have x7:∀c,Lv (V.set g (.I 3 [l,.n (s-1),k])) c=Lv V c:=by grind
  generalize V.set g (.I 3 [l,.n (s-1),k])=xo at xv xX xY x7;have p:∀c,Lv j c->c≠g->AE xx c->xo.N c=j.N c/\Lv xo c/\AE k c:=by grind
  have xs:∀c,¬AE xc c->c≠g:=λc m xR=>by subst xR;exact m (e.fk _ xG (.i B))
  have yd:=xg g xt e.tx;refine⟨xc,k,xo,?_,?_⟩;.rw[Mv.2.2.2.1];simp only[↓Q,↓QT,xB,Mv.2.2.2.2.1,↓H xj.ia,↓H xM,↓xN,↓H xw,xF,↓H xK,↓H xL,xh,Mv.2.2.2.2.2.2,↓H ye,↓H ya,↓H yc,↓H xS,↓xr,↓H xi,↓H yf,↓H xT,↓H xv,Mv.2.2.2.2.2.1,↓H (BF (a:=q) (by omega))]
  .exact{
   M:=xz.Av λc h x2=>by
    have xb:AE X c:=by grind
    have xe:=e.BX c h P xb;grind
   ok:=by rw[xa];exact e.ok.Av λc h m=>⟨(p c h P (e.d.r m)).1,(p c h P (e.d.r m)).2.1⟩
   ot:=by rw[N,<-Ajr];exact xu.Av λc h m=>by have S:c≠g:=P;grind
   gx:=by grind
   lx:=by grind
   d:=CF.of λc m=>xg c (E.lv (e.ok.Dh m)) (e.d.r m)
   fk:=e.fk
   tx:=yd
   BX:=λc h S xb=>by have xe:=e.BX c h S xb;have:=p c xe.2.1 S xe.2.2;grind}
 .rw[Ad xh]at xa N;rw[Aiy]at N;have xp:=jt z (n.AV.t q);rw[AiH]at xp;let⟨xd,u,xr,yq,xk,xg⟩:=GS (f:=BU.c) (w:=2) (b:=r) (o:=.S (BU.c r)) (h:=16) (λ_=>B) B B (e.ok.ext E) (EI (by omega))
  have p:∀c,Lv j c->AE xc c->u.N c=j.N c/\Lv u c/\AE xd c:=by grind
  have xs:=p g e.lx (e.fk _ xG (.i B));refine⟨xd,xx,u,?_,?_⟩;.rw[Mv.2.2.2.1];simp only[↓Q,↓QT,Aic,xB,Mv.2.2.2.2.1,↓H xj.ia,↓H xM,↓xN,↓H xw,xF,↓H xK,↓H xL,xh,↓H yb,↓xr,Mv.2.2.2.2.2.1,↓H (BF (a:=q) (by omega))]
  .exact{
   M:=xz.Av λc h x2=>by have xe:=e.BX c h P P;have:=p c P (e.fk c h P);grind
   ok:=by grind
   ot:=by rw[N];exact e.ot.Av λc h m=>⟨(p c h (e.d.l m)).1,(p c h (e.d.l m)).2.1⟩
   gx:=by rw[N];exact xs.1.t e.gx
   lx:=xs.2.1
   d:=(CF.of λc m=>xg c (E.lv (e.ot.Dh m)) (e.d.l m)).symm
   fk:=λc h yk=>by
    by_cases S:c=g;.grind
    .exact(p c (e.BX c h S P).2.1 (e.fk c h Om)).2.2
   tx:=e.tx
   BX:=λc h S xb=>by have xe:=e.BX c h S xb;have:=p c P (e.fk c h P);grind}
def Nd(a:K):M:=if a=6 then AK else Di
def IC.refl(c:F)(a:G):IC c a a:=λd b _=>⟨B,b⟩
def tT{b:C AG}(yk:Gn b)(y4:BZ b<=6000){xd:C BM}(zC:xd.l<=4000){m:Aa}{v:F}{p l:D->F}(xe:FF b xd m k v p l r)(u t e:M)(y5:Ll b u):∃yD xz x9 yE xl,W9 (Ar 208) [.p m 0,.S (M.c u),.S (M.c t),.S (M.c e)] r=A (.AC [.S (M.c (Nd (CD b u t e).2.2)),.n (CD b u t e).2.2],xl)/\FF (CD b u t e).1 (xd++(CD b u t e).2.1) m yD xz x9 yE xl/\Js r m k v p l b.l xl yD xz x9 yE (CD b u t e).1.l:=by
 let⟨xp,V,y0,yU,yF,yN,yp,zk⟩:=box r (.I 2 (M.c u))
 let⟨Y,xw,y1,yV,xC,yO,yq,zI⟩:=box V (.I 2 (M.c t))
 let⟨Z,yg,y2,yW,xi,yP,yr,zJ⟩:=box xw (.I 2 (M.c e))
 let⟨z,yh,y3,yX,xa,xI,xR,zK⟩:=box yg (.I 2 [.i .u8 0,.n 0])
 have x0:=K2 r u y0 yU
 have x1:=K2 V t y1 yV
 have x2:=K2 xw e y2 yW
 have x3:=J2 yg y3 yX
 have xB:=yF.AQ (xC.AQ (xi.AQ xa))
 have yv:¬Lv r Y:=by grind
 have yw:¬Lv r Z:=by grind
 have yx:¬Lv r z:=by grind
 have x6:=xe.ext xB
 have yb:=((xC.AQ (xi.AQ xa)).N yp).t yN
 have yc:=((xi.AQ xa).N yq).t yO
 have yQ:=(xa.N yr).t yP
 have zf:=(xC.AQ (xi.AQ xa)).lv yp
 have zg:=(xi.AQ xa).lv yq
 have zh:=xa.lv yr
 have xW:yh.AU xp 0 2=A (M.c u):=B2 yb
 have xX:yh.AU Y 0 2=A (M.c t):=B2 yc
 let⟨zb,zd⟩:=is yk x6 u t y5
 cases xt:Dp b u t with
 |false=>
  let⟨xm,xu,J⟩:=zb xt
  have T:CD b u t e=(b,[],0):=by unfold CD;rw[xt,Af B]
  let⟨q,xY,xV,xF⟩:=Ha ((J.N xR).t xI) Di
  have xj:AR r q:=by rw[xF];exact(xB.AQ J).G7 yx _
  have xJ:=cd;rw[T,Aiy];refine⟨k,v,p,l,q,Bd B B ?_,xe.ext xj,Js.ext xj⟩;show _=A (F.AC [.S (M.c Di),.n 0],q);rw[Mv.1];simp only[↓x0,↓x1,↓x2,↓x3,↓Q,↓QT,Aic,↓H xW,↓H xX,↓H xu,↓H rA,QB,↓xJ.H B,↓H xY,↓H xV]
 |true=>
  let⟨i,g,c,xA,yK,xm,xn,xg,xP,U,xM,yl,y9,xu,J⟩:=zd xt
  have yj:i<b.l:=by grind
  have y7:=yk.at xg;have R:=x6.ext J;have x4:=xB.AQ J;have T:CD b u t e=if xA.Ai≠0 then(b,[],(6:K))else(Jk b u.n (λc=>⟨c.I.set t.n.n e,Fg t.n c.AV⟩),(match G_ b u.n with|some c=>Fj t.n e c.AV|none=>[]),(0:K)):=by unfold CD;rw[xt,Ad (by grind),xM];rfl
  let⟨xD,x7⟩:=Dm (f:=M.c) (w:=2) (λ_=>B) (R.M.c i c xg) U
  have:xD=yK:=by have:=x7.ia;rw[y9]at this;cases this;rfl
  subst this;have yB:xm.AU xD (g*2) 2=A (M.c xA):=x7.AU (f:=M.c) (λ_=>B) U;have xv:=VU xA;by_cases xE:xA.Ai=0
  .rw[Be xE]at xv;rw[Ad Om,yl]at T;have y6:(Jk b u.n λc=>⟨c.I.set t.n.n e,Fg t.n c.AV⟩)=b.set i ⟨c.I.set g e,Fg g c.AV⟩:=by unfold Jk;rw[yl];simp only[];rw[xn,xP];rfl
   rw[y6,xP]at T;have T:CD b u t e=(b.set i ⟨c.I.set g e,Fg g c.AV⟩,Fj g e c.AV,0):=T;rw[T];let⟨x8,q,zQ,_,_,zw,xk,zO,zH,zm⟩:=R.M.EY xg U e
   have:x8=xD:=by grind
   subst this;have zF:Ck k p l b.l x8:=.j ⟨i,yj,.i zm⟩;have zs:xm.AU Z 0 2=A (M.c e):=B2 P;have xo:(b.set i ⟨c.I.set g e,c.AV⟩).l=b.l:=by grind
   have xN:(b.set i ⟨c.I.set g e,c.AV⟩)[i]? =A ⟨c.I.set g e,c.AV⟩:=by grind
   have xh:∀a,Lv xm a->¬Ck k p l b.l a->q.N a=xm.N a/\Lv q a:=P;have zn:∀a,¬Lv r a->¬Ck k p l b.l a:=λa o N=>o (xe.M.lv N);have yt:∀a,¬Lv r a->AE v a:=λa o=>Aih λg=>o (xe.ot.Dh g);have xQ:=xh m R.lx R.nx;have ye:=xQ.1.t R.gx;have ym:=xh Y P P;have yn:=xh Z P P;have yo:=xh z P P;have zo:¬Lv r xp:=zk;have zc:=xh xp P (zn xp zo);have zx:q.AA m 0=A k:=AJ ye 0;have yJ:q.AA xp 1=A (.n u.n):=AJ (zc.1.t ((J.N zf).t yb)) 1;obtain⟨S,zD,_,_,zt,_⟩:=xk.at (by rw[xo];exact yj);have za:AZ 2 [k,.n u.n]=A (.p S (i*2)):=by grind
   have ya:Bt 1 [.p S (i*2)]=A (.p S (i*2+1)):=B;have zi:AW q [.p S (i*2+1)]=A (l i):=zt;have zj:=C4 (xk.w i _ xN);have zA:BZ (b.set i ⟨c.I.set g e,c.AV⟩)=BZ b:=by have:=WZ xg ⟨c.I.set g e,c.AV⟩;grind
   have y8:c.AV.l<=BZ b:=by have V:=ed xg;have xw:=ec b (i+1);omega
   have zp:¬Ck k p l (b.set i ⟨c.I.set g e,c.AV⟩).l m:=by rw[xo];exact R.nx
   have xZ:∀a,¬AE v a->¬Ck k p l (b.set i ⟨c.I.set g e,c.AV⟩).l a:=λa o=>by rw[xo];exact R.tm a o
   have yH:Vd (b.set i ⟨c.I.set g e,c.AV⟩) q m k v p l g e c.AV xd (BZ b) 0 .sn v q:={
    M:=xk
    ok:=AF.sn q
    ot:=by show AF q v BM.c 3 (xd++[]);rw[Aiy];exact R.ot.Av P
    gx:=by rw[ye];show A (Ce.I 3 [k,.n (BZ b),v])=A (Ce.I 3 [k,.n ((BZ b)-(0:D)),v]);rw[show(BZ b)-((0:D):K)=BZ b by omega]
    lx:=xQ.2
    d:=(LG v).symm
    fk:=λa _ _=>CM a
    tx:=R.tx
    BX:=λa E U xn=>⟨B,E,xn⟩}
   have yA:∀xU,¬Lv r xU->xU≠m:=λxU o j=>o (j▸xe.lx);have yY:t=⟨t.Ai,g⟩:=by rw[<-xP]
   have yd:=yc;rw[yY]at yd;let⟨⟨W,xq⟩,xL,xG,x⟩:=Ez (h:=c.AV.l) (f:=λy xr r=>jj W9 208 2 [.n c.AV.l,l i,.p Y 0,.p Z 0,.p m 0,.n y,.p S (i*2),xr.1,.p z 0] r)
    (g:=λy xr r=>Vd (b.set i ⟨c.I.set g e,c.AV⟩) q m k v p l g e c.AV xd (BZ b) y xr.1 xr.2 r)
    (λy xr r xf x=>by
     let⟨ze,xz,xl,j,yG⟩:=AeE (xJ:=z) (xA:=.p S (i*2)) (n:=⟨c.I.set g e,c.AV⟩) xN y7.2 e (by omega) y4 y8 xk zp xZ xQ.2 (ym.1.t ((J.N zg).t yd)) ym.2 (yA Y yv) (yt Y yv) (yn.1.t ((J.N zh).t yQ)) yn.2 (yA Z yw) (yt Z yw) xf x
     exact⟨(ze,xz),xl,j,yG⟩)
    (b:=(.sn,v)) (a:=q) yH
   have xG:jj W9 208 2 [.n c.AV.l,l i,.p Y 0,.p Z 0,.p m 0,.n 0,.p S (i*2),.sn,.p z 0] q=jj W9 208 2 [.n c.AV.l,l i,.p Y 0,.p Z 0,.p m 0,.n c.AV.l,.p S (i*2),W,.p z 0] xL:=xG;have x:Vd (b.set i ⟨c.I.set g e,c.AV⟩) q m k v p l g e c.AV xd (BZ b) c.AV.l W xq xL:=x;have yy:=x.ok;have yz:=x.ot;have yf:=x.gx;rw[HV]at yy yz yf;have xH:∀a,Ck k p l b.l a->AE W a:=λa N=>by rw[<-xo]at N;exact x.fk a P (.j (Aih λo=>xZ a o N))
   let⟨xs,yi,zP,_,_,_,zu,x5,xT,ys,zl⟩:=x.M.ev (IC.refl _ xL) xN yy (CF.of λa o=>xH a (.i o)) (λy xf=>CF.of λa o=>xH a (.j ⟨y,by grind,.i o⟩)) (λy xf _=>CF.of λa o=>xH a (.j ⟨y,by grind,.j o⟩))
   have:xs=S:=by grind
   subst this;rw[Ajn]at x5;have zE:Ck k p l b.l xs:=.i zl;have zq:=x.BX z P P P;have yR:=(xT z (λj=>by grind)).t (zq.1.t (yo.1.t ((J.N xR).t xI)));let⟨xb,zv,zr,yM⟩:=Ha yR Di
   have xy:∀a,a≠z->xb.N a=yi.N a:=λa E=>by rw[yM,AY,Ad E]
   have xS:∀a,Lv xb a=Lv yi a:=by grind
   have xJ:=cd;have yL:=Dz c.AV.l;have yu:∀a,Lv q a->a=m\/AE v a->¬Ck k p l b.l a->¬Ck k p (Cf l i W) b.l a:=λa E xM xc=>by
    have xK:=FC.1 xc;refine FC.2 ⟨P,λy xf=>⟨P,?_⟩⟩;by_cases j:y=i;.subst j;rw[EH];exact x.fk a E xM
    .rw[CQ j];grind
   have yI:∀a,Lv r a->a≠m->¬Ck k p l b.l a->AE v a->xb.N a=r.N a/\Lv xb a/\AE xq a/\¬Ck k p (Cf l i W) b.l a:=λa E U xc xn=>by have yT:=x4.lv E;have g:=xh a yT xc;have zN:=x.BX a g.2 U xn;refine⟨(xy a P).t P,by grind,P,P⟩
   have xx:(b.set i ⟨c.I.set g e,Fg g c.AV⟩).l=b.l:=by grind
   have zz:m≠z:=by grind
   have zy:m≠xs:=by grind
   have zM:=yu m P P P;have zG:=yo.2;have zL:=yu z Om P P;have yS:xb.N m=A (.I 3 [k,.n (BZ (b.set i ⟨c.I.set g e,Fg g c.AV⟩)),xq]):=by rw[xy m zz,xT m zy,yf];have V:=WZ xg ⟨c.I.set g e,Fg g c.AV⟩;have xw:=jv g e c.AV;simp only at V;rw[show(BZ b)-(Fj g e c.AV).l=(BZ (b.set i ⟨c.I.set g e,Fg g c.AV⟩):K) by omega]
   have yC:∀a,¬AE xq a->a≠m/\a≠z/\¬Ck k p (Cf l i W) b.l a/\a≠xs:=λa o=>by
    have U:a≠m:=λj=>by subst j;exact o x.tx
    have zB:AE W a:=x.d.l o;have yZ:¬Ck k p l b.l a:=λN=>by have xO:=N;rw[<-xo]at xO;have:=x.BX a (xk.lv xO) U (Aih λo=>xZ a o xO);grind
    refine⟨U,λj=>by subst j;grind,?_,λj=>by subst j;grind⟩;have xK:=FC.1 yZ;refine FC.2 ⟨xK.1,λy xf=>⟨(xK.2 y xf).1,?_⟩⟩;by_cases j:y=i;.subst j;rw[EH];grind
    .rw[CQ j];grind
   refine⟨k,xq,p,Cf l i W,xb,Bd B B ?_,?_,⟨λa E xc=> ?_⟩⟩;.show _=A (F.AC [.S (M.c Di),.n 0],xb);rw[Mv.1];simp only[↓x0,↓x1,↓x2,↓x3,↓Q,↓QT,Aic,↓H xW,↓H xX,↓H xu,↓H (hi _ _),QB,↓H yB,↓xv.H B,Mv.2.1,↓H zs,↓H zw,↓H zx,↓H yJ,↓H za,↓H ya,↓H zi,↓H zj];rw[xG,Mv.2.2.2.1];simp only[QY,yL,Mv.2.2.1,ya,zu,xJ.H B,zv,zr]
   .exact{
    M:=x5.Av λa E N=>by rw[xx]at N;exact⟨xy a (λj=>by subst j;grind),by rw[xS];grind⟩
    ot:=yz.Av λa E o=>by have g:=yC a o;exact⟨(xy a g.2.1).t (xT a g.2.2.2),by rw[xS,ys];grind⟩
    gx:=yS
    lx:=by rw[xS,ys];exact x.lx
    nx:=by rw[xx];grind
    tx:=x.tx
    tm:=λa o=>by rw[xx];exact(yC a o).2.2.1}
   .have V:a≠m:=λj=>xc (.i j);have:=yI a E V (λj=>xc (.j (.i j)):¬Ck k p l b.l a) (Aih λj=>xc (.j (.j j)):AE v a);refine⟨this.1,this.2.1,λN=> ?_⟩;rcases N with j|j|j;.exact V j
    .rw[xx]at j;exact this.2.2.2 j
    .exact j this.2.2.1
  .rw[Ba xE]at xv;rw[Af xE]at T;rw[T,Aiy];let⟨q,xY,xV,xF⟩:=Ha ((J.N xR).t xI) AK
   have xj:AR r q:=by rw[xF];exact x4.G7 yx _
   refine⟨k,v,p,l,q,Bd B B ?_,xe.ext xj,Js.ext xj⟩;show _=A (F.AC [.S (M.c AK),.n 6],q);rw[Mv.1];simp only[↓x0,↓x1,↓x2,↓x3,↓Q,↓QT,Aic,↓H xW,↓H xX,↓H xu,↓H (hi _ _),QB,↓H yB,↓xv.H B,↓QE,↓H xY,↓H xV]
def lH:∀c a:C _,BZ (c++a)=BZ c+BZ a
 |[],a=>by show BZ a=0+BZ a;omega
 |d::b,a=>by show d.AV.l+BZ (b++a)=d.AV.l+BZ b+BZ a;rw[lH b a];omega
theorem eo(a:Aa)(b:M):CB 1 2 a [.S (M.c b)]=A (.I 2 ([b].f M.c),.Z a 0 1 2 2):=rfl
def k6(a:G)(b:M):AF (a.V (.I 2 ([b].f M.c))) (.Z a.next 0 1 2 2) M.c 2 [b]:=.j ⟨a.next,2,B,P,P,P⟩
def tS{d:C AG}(yd:Gn d){xv:C BM}{m:F}{q t:D->F}{k:G}(u:FF d xv g p m q t k)(e:M):∃j T xa J,W9 (Ar 207) [.p g 0,.S (M.c e)] k=A (.AC [.S (M.c (C7 d e).2.1),.n (C7 d e).2.2],J)/\FF (C7 d e).1 xv g j m T xa J/\Js k g p m q t d.l J j m T xa (C7 d e).1.l:=by
 have yB:=yd.1;let⟨X,xE,ye,ya,xX,x7,xJ,yE⟩:=box k (.I 2 (M.c e))
 let⟨y,h,yf,yb,xk,xC,xr,yF⟩:=box xE (.I 2 [.i .u8 0,.n 0])
 have xV:=K2 k e ye ya;have xW:=J2 xE yf yb;have xj:=xX.AQ xk;have xN:¬Lv k y:=by grind
 have z:=u.ext xj;have V:=(xk.N xJ).t x7;have yi:=xk.lv xJ;have xR:h.AU X 0 2=A (M.c e):=B2 V;have xy:h.AA X 0=A (.i .u8 e.Ai):=AJ V 0;have xz:h.AA X 1=A (.n e.n):=AJ V 1;have xU:h.AA g 0=A p:=AJ z.gx 0;have xs:=C4 z.M.o;rw[Aip]at xs;have xe:∀(N:M)(f:K),(∀i,A1 2 h [.p y 0,.S (M.c N)]=A (Ax,i)->i.AU y 0 2=A (M.c N)->xx W9 207 [.p g 0,.S (M.c e)] k=A (.AC [.S (M.c N),.n f],i))->C7 d e=(d,N,f)->∃j T xa J,W9 (Ar 207) [.p g 0,.S (M.c e)] k=A (.AC [.S (M.c (C7 d e).2.1),.n (C7 d e).2.2],J)/\FF (C7 d e).1 xv g j m T xa J/\Js k g p m q t d.l J j m T xa (C7 d e).1.l:=λN f x x4=>by
  let⟨i,Z,Y,U⟩:=Ha xC N
  have xw:AR k i:=by rw[U];exact xj.G7 xN _
  rw[x4];exact⟨p,q,t,i,Bd B B P,u.ext xw,Js.ext xw⟩
 have E:=YK e;have W:=O7 e.n 0 100;by_cases xc:e.Ai=5;.refine xe e 0 (λi Z Y=> ?_) (by unfold C7;grind);rw[Be xc]at E;rw[Um.1];simp only[QY,E.H B,QB, *]
 rw[Ba xc]at E;by_cases xo:e.Ai=1
 .cases xd:BY e.n 0 100 with
  |false=>rw[xd]at W;refine xe (D2 4) 0 (λi Z Y=> ?_) (by unfold C7;grind);rw[Um.1];simp only[QY,E.H B,QB,W.H B,(O8 4).H B, *]
  |true=>
   rw[xd]at W;have yz:0<=e.n/\e.n<=100:=by unfold BY at xd;grind
   have xf:=Cz .n d.l 400;by_cases x0:d.l=400;.rw[Be (by omega)]at xf;refine xe AK 5 (λi Z Y=> ?_) (by unfold C7;grind);rw[Um.1];simp only[↓xV,↓xW,↓Q,↓QT,↓H xR,↓E.H B,QB,↓H xy,↓H xz,↓W.H B,↓H xU,↓H xs,↓H xf,↓QE,↓H Z,↓H Y, *]
   .rw[Ba (by omega)]at xf;have xH:C7 d e=(d++[⟨Bv e.n.n AK,[]⟩],DB d.l,0):=by unfold C7;rw[Ad xc,Ad (λk=>k xo),xd,Ad (by grind),Ad x0]
    rw[xH];have yj:BV .Dg [.p g 0] h p=L:=Jd z.gx B;have yl:BV .Dg [.p X 1] h (.n e.n)=L:=Jd V B;have xm:AR h (h.V (.I 2 ([AK].f M.c))):=AR.V _ _;have xt:=k6 h AK;have xS:=eo h.next AK;generalize yg:F.Z h.next 0 1 2 2=N at xt xS;generalize yc:h.V (.I 2 ([AK].f M.c))=xF at xm xt;have xZ:xF.AA X 1=A (.n e.n):=AJ ((xm.N yi).t V) 1;have w:e.n=e.n.n:=by omega
    generalize yA:e.n.n=x at w xH;let⟨I,xG,xA,xP,xY,x5⟩:=ug (a:=x) (by omega) xt
    rw[<-w]at xA;have xl:=xm.AQ xY;have R:=z.ext xl;have yk:BV .Dg [.p g 0] xG p=L:=Jd R.gx B;have x2:BE [.sn,.sn] [(0,1)] [I]=A (.S [I,.sn]):=by rcases xP with⟨rfl,_⟩|⟨_,_,rfl,_⟩<;>rfl
    have x6:∀c,Lv h c->AE I c:=λc r=>x5 c P;have xp:∀{xT:F},(∀c,¬AE xT c->Ck p q t d.l c)->CF xT I:=λx=>CF.of λc l=>x6 c (z.M.lv (x c l));let⟨j,i,yh,xb,U,yv⟩:=R.M.EK (m:=⟨Bv x AK,[]⟩) xP (AF.sn xG) (LG _) (xp λc l=>.i l) (LG _) (λxi xh=>⟨xp λc l=>.j ⟨xi,xh,.i l⟩,xp λc l=>.j ⟨xi,xh,.j l⟩,LG _,LG _⟩) (by omega)
    have yo:=FC.1 R.nx;have x9:=(U.N R.lx P).t R.gx;have yy:BZ (d++[⟨Bv x AK,[]⟩])=BZ d:=by rw[lH];rfl
    have xu:=G9 (d:=0) (a:=j) x9 (by omega) (by omega) (CS xb.o).1 (CS xb.o).2;rw[(Uv _ _ _ _).1]at xu;have xO:∀c,c≠g->(i.set g (.I 3 [j,.n (BZ d),m])).N c=i.N c:=λc r=>by rw[AY,Ad r]
    have xD:(i.set g (.I 3 [j,.n (BZ d),m])).N g=A (.I 3 [j,.n (BZ d),m]):=by rw[AY,Af B]
    have xL:∀c,Lv (i.set g (.I 3 [j,.n (BZ d),m])) c=Lv i c:=by grind
    generalize i.set g (.I 3 [j,.n (BZ d),m])=xq at xu xO xD xL;have yt:xq.AA g 0=A j:=AJ xD 0;have xK:=C4 xb.o;have xI:(d++[(⟨Bv x AK,[]⟩:AG)]).l=d.l+1:=by simp
    rw[Aip,xI]at xK;have xB:=Gu (a:=(d.l+1:D)) (b:=1) (by omega) (by omega);rw[show(d.l+1:D)-1=(d.l:K) by omega]at xB;have x3:BE [(.i .u8 0),(.n 0)] [(0,1),(1,1)] [.i .u8 4,.n d.l]=A (.S (M.c (DB d.l))):=B;have xQ:¬Ck p q t d.l y:=λxg=>xN (u.M.lv xg);have yq:AE p y:=(FC.1 xQ).1;have yu:g≠y:=by grind
    have x8:=(xO y (λf=>yu f.s)).t ((U.N (xl.lv xr) yq).t ((xl.N xr).t xC));let⟨S,ys,yr,x1⟩:=Ha x8 (DB d.l)
    have yp:∀c,c≠y->S.N c=xq.N c:=λc r=>by rw[x1,AY,Ad r]
    have ym:∀c,Lv S c=Lv xq c:=by grind
    have xM:∀c,Lv h c->¬Ck p q t d.l c->¬Ck j (Cf q d.l I) (Cf t d.l .sn) (d++[(⟨Bv x AK,[]⟩:AG)]).l c:=λc r w=>by
     have yw:=FC.1 w;refine FC.2 ⟨P,λxi xh=> ?_⟩;rw[xI]at xh;by_cases f:xi=d.l;.subst f;rw[EH,EH];exact⟨P,CM c⟩
     .rw[CQ f,CQ f];grind
    have xn:∀c,Lv k c->c≠g->¬Ck p q t d.l c->S.N c=k.N c/\Lv S c/\¬Ck j (Cf q d.l I) (Cf t d.l .sn) (d++[(⟨Bv x AK,[]⟩:AG)]).l c:=λc r yD w=>by have yx:=xj.lv r;have yC:=(FC.1 w).1;grind
    have yn:=xM g z.lx z.nx;have yG:=xM y xr xQ;refine⟨j,Cf q d.l I,Cf t d.l .sn,S,Bd B B ?_,?_,⟨λc r w=> ?_⟩⟩;.show _=A (F.AC [.S (M.c (DB d.l)),.n 0],S);rw[Um.1];simp only[↓xV,↓xW,↓Q,↓QT,Aic,↓H xR,↓E.H B,QB,↓H xy,xo,↓H xz,↓W.H B,↓H xU,↓H xs,↓H xf,Um.2,↓YG.H B,yj,↓MP,↓H xS,yg,yc,↓H xZ,yl,↓H xA,yk,↓H x2,↓yh,↓H xu,↓H yt,↓H xK,↓H xB,↓H x3,↓H ys,↓H yr]
    .exact{
     M:=xb.Av λc r xg=>⟨(yp c P).t P,by grind⟩
     ot:=u.ot.Av λc r l=>by have:=xn c r (λf=>l (f▸u.tx)) (u.tm c l);grind
     gx:=by grind
     lx:=by rw[ym,xL];exact U.lv R.lx yo.1
     nx:=yn
     tx:=u.tx
     tm:=λc l=>(xn c (u.ot.Dh l) (λf=>l (f▸u.tx)) (u.tm c l)).2.2}
    .have h:¬Ck p q t d.l c:=λf=>w (.j (.i f));have xF:AE m c:=Aih λf=>w (.j (.j f));have:=xn c r (λf=>w (.i f)) h;refine⟨this.1,this.2.1,λxg=> ?_⟩;rcases xg with f|f|f<;>grind
 .refine xe (D2 5) 0 (λi Z Y=> ?_) (by unfold C7;rw[Ad xc,Af xo]);rw[Um.1];simp only[QY,E.H B,QB,(O8 5).H B, *]
structure EW where
 op:K
 a:M
 b:M
 c:M
 Cq:K
def EW.c8(d:EW):C F:=[.i .u8 d.op,.i .u8 d.a.Ai,.n d.a.n,.i .u8 d.b.Ai,.n d.b.n,.i .u8 d.c.Ai,.n d.c.n,.n d.Cq]
def EW.Dj(d:EW):C M:=if d.op=2 then[d.a,d.b,d.c]else if d.op=3 then[d.a,d.b]else[d.a]
structure nn where
 m:C AG
 v:M
 Gx:C BM
 e:K
def BA(b:C AG)(a:EW):nn:=
 if a.op=1 then⟨(C7 b a.a).1,(C7 b a.a).2.1,[],(C7 b a.a).2.2⟩
 else if a.op=2 then⟨(CD b a.a a.b a.c).1,Nd (CD b a.a a.b a.c).2.2,(CD b a.a a.b a.c).2.1,(CD b a.a a.b a.c).2.2⟩
 else if a.op=3 then⟨(Ds b a.a a.b a.Cq).1,(Ds b a.a a.b a.Cq).2.1,[],(Ds b a.a a.b a.Cq).2.2⟩
 else⟨b,HI b a.a,[],0⟩
def k5{r:Type}{d:r->C F}{b l:D}(E:∀k,(d k).l=b)(y:∀k,Ct (d k)=L){h f:F}{e a:C r}(w:AF c h d b e)(q:AF c f d b a)(z:(e.l+a.l)*l<=Hs):∃i g,Eo b l c [h,f]=A (i,g)/\AF g i d b (e++a)/\IC h c g/\(∀m,Lv c m->AE h m->AE i m):=by
 let⟨i,g,J,H⟩:=ZE E w z
 refine⟨i,g,?_,H⟩;have s:∀e:C _,Ct (e.f d)=L:=λe=>by
  induction e with
  |nil=>rfl
  |cons k P n=>rw[EC]at n⊢;rw[AiV,Ajm,n,<-EC,y];rfl
 show(match KP f with|some o=>(match HO c b o f with|some p=>An (Ct p) (LA c b l h o p) O|none=>O)|none=>O)=_;have u:KP f=A a.l:=by rcases q with⟨rfl,rfl⟩|⟨j,t,rfl,_⟩<;>rfl
 have v:HO c b a.l f=A (a.f d):=by
  rcases q with⟨rfl,rfl⟩|⟨j,t,rfl,M,x,N⟩;.rfl
  .show An (Bb b b&&Co a.l a.l) (An (Bb a.l 0) (A []) (c.AU j 0 (a.l*b))) O=_;rw[AiG,Air (C6 _)];show An (Bb a.l 0) (A []) (c.AU j 0 (a.l*b))=_;by_cases I:a.l=0
   .have:a=[]:=by grind
    subst this;rfl
   .rw[G0 I];show c.AU j 0 (a.l*b)=_;rw[EA x,Af (by omega),Af B]
 rw[u];simp only[v];rw[s];grind
def oh{d:Aa}{j:F}{z:C F}{c:C AG}{y:D->F}(E:c.l<=400)(o:b.N e=A (.I 1 [.p d 0]))(v:Lv b e)(q:b.N d=A (.I 3 (j::z)))(w:Lv b d)(x:AF b j (HT n y) 2 (List.range c.l))(t:C _):NU (AR b) (Ar 205) [.p e 0] t (λd=>.S (M.c d)) (λa=> !II a c.l):=λa _ g k=>by
 have h:=tR a c.l (by omega);let⟨I,i,s,r,l,p,H,_⟩:=box g (.I 2 (M.c a))
 have Q:=K2 g a s r;have f:=k.AQ l;have N:=p;have J:=(f.N v).t o;have P:=(f.N w).t q;have u:=C4 x;rw[Aip]at u;refine⟨i,Bd B B ?_,f⟩;show xx W9 205 [.S (M.c a),.p e 0] g=A (.b (!II a c.l),i);generalize II a c.l=m at h⊢;rw[v7];cases m<;>simp only[QY,h.H B,QB, *]
def Yt{h g:G}{p j:C AG}{S w:C BM}{c:Aa}{s q:F}{t f m:D->F}{T:C F}(x:AR h g)(y:FF p S e s q n t h)(u:Js g e s q n t p.l d l k f m j.l)(z:FF j w e l k f m d)(E:g.N c=A (.I 2 T))(I:Lv g c)(N:¬Lv h c)(r:M):∃b,A1 2 d [.p c 0,.S (M.c r)]=A (Ax,b)/\b.AU c 0 2=A (M.c r)/\FF j w e l k f m b/\Js h e s q n t p.l b l k f m j.l:=by
 have J:=λo=>N (y.lvs o);have o:=u.fr c I J;let⟨b,R,Q,v⟩:=Ha (o.1.t E) r
 have P:∀a,a≠c->b.N a=d.N a:=λa i=>by rw[v,AY,Ad i]
 have W:∀a,Lv b a=Lv d a:=by grind
 refine⟨b,R,Q,z.Av λa i U=>⟨P a (λv=>by grind),by grind⟩,⟨λa i H=> ?_⟩⟩;have V:=u.fr a (x.lv i) H;grind
def vs{c:C _}{a:M}(b:II a c.l=L):Ll c a:=by unfold II at b;rw[Aie]at b;exact cO (by rw[R8 a (by omega)];grind)
def qD{d:C _}(p:Gn d){x:C BM}{l i j:Aa}{y v:F}{z:D->F}{a:G}(g:FF d x l y v n z a)(o:a.N e=A (.I 1 [.p l 0]))(t:Lv a e){c:C _}(u:AF a k M.c 2 c)(E:c.l<1000)(r:∀h∈c,II h d.l=L):∃b,jj W9 163 3 [k,.p e 0,.p i 0,.p j 0] a=jj W9 163 2 [.p e 0,.p i 0,.p j 0] b/\AR a b:=by
 let⟨b,s,m⟩:=NX Vt T8 (Jt.CC (c:=M.c) (a:=2) (λ_=>B) u) (oh p.1 o t g.gx g.lx g.M.o c) (by omega) a (λH q=>⟨B,q⟩)
 rw[Rz (λh=>II h d.l),AiP.2 r]at s;refine⟨b,?_,m⟩;rw[N7.2.1];simp only[QY,QB, *]
def ZT{a:G}{b:Aa}{c:EW}(d:a.N b=A (.I 8 c.c8)):a.AA b 0=A (.i .u8 c.op)/\a.AU b 1 2=A (M.c c.a)/\a.AU b 3 2=A (M.c c.b)/\a.AU b 5 2=A (M.c c.c)/\a.AA b 7=A (.n c.Cq):=by refine⟨AJ d 0,?_,?_,?_,AJ d 7⟩<;>(rw[EA d,Af (by grind),Ad (by grind)];rfl)
def q1{b:C AG}(s:Gn b)(T:BZ b<=6000){x:Aa}{P:F}{S Q:D->F}(n:FF b [] x P p S Q r){U V v:Aa}{k:G}(l:AR r k)(a:EW)(xc:k.N U=A (.I 1 [.p x 0]))(X:k.N V=A (.I 8 a.c8)){xb:C F}(q:k.N v=A (.I 2 xb))(t:Lv k v)(u:¬Lv r v)(Y:a.op=1\/a.op=2\/a.op=3\/a.op=4)(Z:∀xa∈a.Dj,II xa b.l=L):∃d w c e H,jj W9 163 2 [.p U 0,.p V 0,.p v 0] k=A (.AC [.S (M.c (BA b a).v),.n (BA b a).e],H)/\FF (BA b a).m (BA b a).Gx x d w c e H/\Js r x P p S Q b.l H d w c e (BA b a).m.l:=by
 have o:=n.ext l;let⟨xd,xf,xg,xh,xe⟩:=ZT X
 have W:a.a∈a.Dj:=by unfold EW.Dj;split;simp;split<;>simp
 have J:=vs (Z a.a W);rcases Y with y|y|y|y
 .have i:BA b a=⟨(C7 b a.a).1,(C7 b a.a).2.1,[],(C7 b a.a).2.2⟩:=by unfold BA;grind
  rw[i];let⟨d,c,e,E,z,j,m⟩:=tS s o a.a
  let⟨h,N,I,g,f⟩:=Yt l n m j q t u (C7 b a.a).2.1
  refine⟨d,p,c,e,h,?_,g,f⟩;rw[N7.2.2.2.1];simp only[QY,Int.reduceEq, *]
 .have i:BA b a=⟨(CD b a.a a.b a.c).1,Nd (CD b a.a a.b a.c).2.2,(CD b a.a a.b a.c).2.1,(CD b a.a a.b a.c).2.2⟩:=by unfold BA;grind
  rw[i];let⟨d,w,c,e,E,z,j,m⟩:=tT s T (xd:=[]) (by grind) o a.a a.b a.c J
  rw[Akv]at j;let⟨h,N,I,g,f⟩:=Yt l n m j q t u (Nd (CD b a.a a.b a.c).2.2)
  refine⟨d,w,c,e,h,?_,g,f⟩;rw[N7.2.2.2.1];simp only[QY,Int.reduceEq, *]
 .have i:BA b a=⟨(Ds b a.a a.b a.Cq).1,(Ds b a.a a.b a.Cq).2.1,[],(Ds b a.a a.b a.Cq).2.2⟩:=by unfold BA;grind
  rw[i];let⟨d,c,e,E,z,j,m⟩:=tU s T o a.a a.b a.Cq J
  let⟨h,N,I,g,f⟩:=Yt l n m j q t u (Ds b a.a a.b a.Cq).2.1
  refine⟨d,p,c,e,h,?_,g,f⟩;rw[N7.2.2.2.1];simp only[QY,Int.reduceEq, *]
 .have i:BA b a=⟨b,HI b a.a,[],0⟩:=by unfold BA;grind
  rw[i];let⟨E,z,R⟩:=tV s o a.a J
  let⟨h,N,I,g,f⟩:=Yt l n (Js.ext R) (o.ext R) q t u (HI b a.a)
  refine⟨P,p,_,Q,h,?_,g,f⟩;rw[N7.2.2.2.1];simp only[QY,Int.reduceEq,N7.2.2.2.2, *]
theorem AdM(c:Aa)(a b:M):CB 2 2 c [.S (M.c a),.S (M.c b)]=A (.I 4 ([a,b].f M.c),.Z c 0 2 3 2):=rfl
def tA{b:C AG}(xA:Gn b)(xW:BZ b<=6000){d:Aa}{xa Z:F}{N xb:D->F}{k:G}(xq:FF b [] d xa Z N xb k)(a:EW)(xR:a.op=1\/a.op=2\/a.op=3\/a.op=4)(xC:∀x2∈a.Dj,II x2 b.l=L):∃h g e i c,W9 (Ar 163) [.p d 0,.S a.c8] k=A (.AC [.S (M.c (BA b a).v),.n (BA b a).e],c)/\FF (BA b a).m (BA b a).Gx d h g e i c/\Js k d xa Z N xb b.l c h g e i (BA b a).m.l:=by
 let⟨z,u,xT,xN,xF,xv,W,yg⟩:=box k (.I 1 [.p d 0])
 let⟨q,xe,xU,xO,r,xd,v,yh⟩:=box u (.I 8 a.c8)
 let⟨E,T,xV,xP,j,xy,X,yi⟩:=box xe (.I 2 [.i .u8 0,.n 0])
 let⟨l,p,xB,xz,m,xL,xY,yj⟩:=box T (.I 2 ([a.a].f M.c))
 have xn:∀(t:F->G->R),bl (.p k.next 0) (k.V (.I (BK (F.I (.p d 0))) (F.I (.p d 0)))) t=t (.p z 0) u:=Em k (.I 1 [.p d 0]) xT xN;have xo:∀(t:F->G->R),bl (.p u.next 0) (u.V (.I (BK (F.I (.S a.c8))) (F.I (.S a.c8)))) t=t (.p q 0) xe:=Em u (.I 8 a.c8) xU xO;have xp:=J2 xe xV xP;have xc:=xF.AQ (r.AQ j);have x3:=xc.AQ m;have x8:=((r.AQ (j.AQ m)).N W).t xv;have yd:=(r.AQ (j.AQ m)).lv W;have xx:=((j.AQ m).N v).t xd;have ye:=(j.AQ m).lv v;have x9:=(m.N X).t xy;have yf:=m.lv X;have xw:=((r.AQ j).N W).t xv;have xg:=(r.AQ j).lv W;let⟨xi,yo,_,_,_⟩:=ZT xx
 let⟨yn,xj,_,_,_⟩:=ZT ((j.N v).t xd)
 let⟨_,_,yp,yq,_⟩:=ZT xx
 have xE:AF p (.Z l 0 1 2 2) M.c 2 [a.a]:=.j ⟨l,2,B,.j B,xL,xY⟩;have xk:CB 1 2 l [.S (M.c a.a)]=A (.I 2 ([a.a].f M.c),.Z l 0 1 2 2):=eo l a.a;have S:∀(xl:F)(V:G),AF V xl M.c 2 a.Dj->AR T V->jj W9 163 4 [.b (Au (a.op=1\/a.op=4)),.i .u8 a.op,.Z l 0 1 2 2,.p z 0,.p q 0,.p E 0] p=jj W9 163 3 [xl,.p z 0,.p q 0,.p E 0] V->∃h g e i c,jj W9 163 4 [.b (Au (a.op=1\/a.op=4)),.i .u8 a.op,.Z l 0 1 2 2,.p z 0,.p q 0,.p E 0] p=A (.AC [.S (M.c (BA b a).v),.n (BA b a).e],c)/\FF (BA b a).m (BA b a).Gx d h g e i c/\Js k d xa Z N xb b.l c h g e i (BA b a).m.l:=λxl V x1 n o=>by
  have xQ:a.Dj.l<1000:=by
   have:a.Dj.l<=3:=by unfold EW.Dj;split;simp;split<;>simp
   omega
  let⟨xf,xu,xG⟩:=qD (i:=q) (j:=E) xA (xq.ext (xc.AQ n)) ((n.N xg).t xw) (n.lv xg) x1 xQ xC
  have s:=n.AQ xG;let⟨h,g,e,i,ya,x7,x5,x4⟩:=q1 xA xW xq (xc.AQ s) a ((s.N xg).t xw) ((s.N (j.lv v)).t ((j.N v).t xd)) ((s.N X).t xy) (s.lv X) P xR xC
  grind
 have x0:∃h g e i c,jj W9 163 4 [.b (Au (a.op=1\/a.op=4)),.i .u8 a.op,.Z l 0 1 2 2,.p z 0,.p q 0,.p E 0] p=A (.AC [.S (M.c (BA b a).v),.n (BA b a).e],c)/\FF (BA b a).m (BA b a).Gx d h g e i c/\Js k d xa Z N xb b.l c h g e i (BA b a).m.l:=by
  by_cases xs:a.op=1\/a.op=4
  .have xD:a.Dj=[a.a]:=by unfold EW.Dj;grind
   refine S (.Z l 0 1 2 2) p (by grind) m ?_;rw[Be xs,N7.2.2.1];simp only[↓Q]
  .rw[Ba xs]at S⊢;by_cases xJ:a.op=3
   .have xD:a.Dj=[a.a,a.b]:=by unfold EW.Dj;rw[Ad (by omega),Af xJ]
    let⟨xm,U,xX,yl,xK,_⟩:=GS (f:=M.c) (w:=2) (b:=a.b) (o:=.S (M.c a.b)) (h:=16) (λ_=>B) B B xE (EI (by grind))
    refine S xm U (by grind) (λxh xS=>by have:=xK xh P (Fe P);grind:AR T U) ?_
    rw[N7.2.2.1];simp only[QY, *]
   .have x6:a.op=2:=by omega
    have xD:a.Dj=[a.a,a.b,a.c]:=by unfold EW.Dj;grind
    let⟨I,U,yc,yb,n,xM,xZ,yk⟩:=box p (.I 4 ([a.b,a.c].f M.c))
    have yr:CB 2 2 I [.S (M.c a.b),.S (M.c a.c)]=A (.I 4 ([a.b,a.c].f M.c),.Z I 0 2 3 2):=AdM I a.b a.c;let⟨xm,xf,xX,ym,xu,_⟩:=k5 (d:=M.c) (b:=2) (l:=16) (λ_=>B) (λ_=>B) (xE.ext n) (.j ⟨I,3,B,.j B,xM,xZ⟩:AF U (.Z I 0 2 3 2) M.c 2 [a.b,a.c]) (EI (by grind))
    refine S xm xf (by grind) (λxh xS=>by have:=xu xh P (Fe P);grind:AR T xf) ?_
    rw[N7.2.2.1];simp only[QY,Int.reduceEq, *]
 let⟨h,g,e,i,c,o,xI,xH⟩:=x0
 refine⟨h,g,e,i,c,Bd B B ?_,xI,xH⟩;have J:=Cz .u8 a.op 1;have Y:=Cz .u8 a.op 4;rw[N7.1];by_cases xr:a.op=1;.rw[Be xr]at J;rw[Be Om]at o;simp only[↓xn,↓xo,↓xp,↓Q,↓H xj,xB,↓H xk,xz,↓H xi,↓H J,o]
 .rw[Ba xr]at J;by_cases xt:a.op=4;.rw[Be xt]at Y;rw[Be Om]at o;simp only[↓xn,↓xo,↓xp,↓Q,↓H xj,xB,↓H xk,xz,↓H xi,↓H J,↓H Y,o]
  .rw[Ba xt]at Y;rw[Ba Om]at o;simp only[↓xn,↓xo,↓xp,↓Q,↓H xj,↓H xk,↓H xi,↓H J,↓H Y, *]
def Q_{a:Aa}{g:C F}(e:c.N a=A (.I 1 g)){b:F}(f:FX b=L):∃d,A1 1 c [.p a 0,.S [b]]=A (Ax,d)/\d.AU a 0 1=A [b]/\d=c.set a (.I 1 [b]):=
 ⟨_,Ho e B (by rw[EC];simp[f]),B2 (by rw[AY,Af B]),B⟩
def tB{o:C AG}{t:C BM}{f:Aa}{b s:F}{h u:D->F}{a:G}(c:FF o t f b s h u a):∃e,W9 (Ar 164) [.p f 0] a=A (.S [b],e)/\AR a e:=by
 let⟨z,x,n,m,d,k,y,p⟩:=box a (.I 1 [.sn])
 have w:=Em a (.I 1 [.sn]) n m;have g:=c.ext d;have v:=AJ g.gx 0;have j:BE [.sn] [(0,1)] [b]=A (.S [b]):=by rcases c.M.o with⟨rfl,_⟩|⟨_,_,rfl,_⟩<;>rfl
 let⟨l,r,q,i⟩:=Q_ k (CS c.M.o).2
 refine⟨l,Bd B B ?_,by rw[i];exact d.G7 p _⟩;rw[vX];simp only[↓w,↓Q,↓H v,↓H j,↓H r,↓H q]
structure Gg(a:C AG):Prop where
 ok:Gn a
 Vx:No a=0
def Gg.Q5{b:C _}(c:Gg b):BZ b<=6000:=by
 have a:=c.Vx;unfold No at a;split at a;.grind
 .grind
def tf{c:C AG}(xa:Gg c){xW yF:D->F}(xU:Dn d l xW yF c)(b:EW)(yh:b.op=1\/b.op=2\/b.op=3\/b.op=4)(ym:∀yE∈b.Dj,II yE c.l=L):((BA c b).e≠0->∃m,W9 (Ar 122) [.S [l],.S b.c8] d=A (.AC [.S [.sn],.S (M.c AK),.sn,.n (BA c b).e],m)/\AR d m)/\
  ((BA c b).e=0->∃I xg P Y m,W9 (Ar 122) [.S [l],.S b.c8] d=A (.AC [.S [I],.S (M.c (BA c b).v),xg,.n 0],m)/\AR d m/\Dn m I P Y (BA c b).m/\AF m xg BM.c 3 (BA c b).Gx/\
   (∀a,Lv d a->¬Ck I P Y (BA c b).m.l a/\AE xg a)/\(∀a,¬AE xg a->¬Ck I P Y (BA c b).m.l a)):=by
 let⟨xG,T,yi,yc,xR,xZ,yn,yP⟩:=box d (.I 1 [l])
 let⟨xH,V,yj,yd,xp,x1,xA,yQ⟩:=box T (.I 8 b.c8)
 let⟨i,W,yk,ye,Z,x3,xB,yR⟩:=box V (.I 1 [.sn])
 let⟨x,r,yl,yf,t,x6,xe,yS⟩:=box W (.I 2 [.i .u8 0,.n 0])
 have xN:∀(j:F->G->R),bl (.p d.next 0) (d.V (.I (BK (F.I (.S [l]))) (F.I (.S [l])))) j=j (.p xG 0) T:=Em d (.I 1 [l]) yi yc
 have xO:∀(j:F->G->R),bl (.p T.next 0) (T.V (.I (BK (F.I (.S b.c8))) (F.I (.S b.c8)))) j=j (.p xH 0) V:=Em T (.I 8 b.c8) yj yd
 have xP:∀(j:F->G->R),bl (.p V.next 0) (V.V (.I 1 [.sn])) j=j (.p i 0) W:=Em V (.I 1 [.sn]) yk ye
 have xQ:=J2 W yl yf
 have xh:=xR.AQ (xp.AQ (Z.AQ t))
 have xD:¬Lv d i:=by grind
 have xE:¬Lv d x:=by grind
 have x0:=((xp.AQ (Z.AQ t)).N yn).t xZ
 have x2:=((Z.AQ t).N xA).t x1
 have yo:=(Z.AQ t).lv xA
 have x4:=(t.N xB).t x3
 have xd:=t.lv xB
 have xf:i≠x:=by grind
 have xK:r.AU xG 0 1=A [l]:=B2 x0
 let⟨f,I,P,Y,ya,xv,xV,xq,xY⟩:=h9 xa.ok xa.Vx (xU.ext xh)
 have xI:ya.AU xH 0 8=A b.c8:=B2 ((xq.N yo).t x2)
 let⟨xo,E,xu,xM,w,xk,xi,xT⟩:=tA xa.ok xa.Q5 xV b yh ym
 have yw:∀a,Lv r a->¬OO f I .sn P Y c.l a:=λa e xc=>by
  have:=xY a e;rcases xc with s|s|s;.grind
  .grind
  .exact s (CM a)
 have n:∀a,Lv r a->w.N a=r.N a/\Lv w a/\¬OO f xo E xu xM (BA c b).m.l a:=λa e=>by have:=xT.fr a (xq.lv e) (yw a e);grind
 have xS:AR r w:=λa e=>⟨(n a e).1,(n a e).2.1⟩
 let⟨y,yL,xm,xl,xr,x9,yN,yv⟩:=box w (.I 2 [.i .u8 0,.n 0])
 have yV:=J2 w xm xl
 have yJ:=xi.ext xr
 let⟨X,xL,yT,xw⟩:=Ha x9 (BA c b).v
 have xs:AR w X:=by rw[xw];exact xr.G7 yv _
 have xj:=xi.ext xs
 have xy:X.N y=A (.I 2 (M.c (BA c b).v)):=by rw[xw,AY,Af B]
 have yp:Lv X y:=by grind
 have J:=xS.AQ xs
 have xt:=xh.AQ J
 have xx:=(J.N xd).t x4
 have x7:=(J.N xe).t x6
 constructor
 .intro yg;have xX:BE [.sn] [] []=A (.S [.sn]):=B;let⟨k,yC,yU,S⟩:=Q_ xx (b:=.sn) B
  let⟨p,xn,xJ,g⟩:=Ha (b:=k) (a:=x) (f:=[.i .u8 0,.n 0]) (by rw[S,AY,Ad xf.symm];grind) AK
  have yy:p.AU i 0 1=A [.sn]:=B2 (by rw[g,AY,Ad xf,S,AY,Af B]);refine⟨p,Bd B B ?_,?_⟩;.rw[V5.1];simp only[↓xN,↓xO,↓xP,↓xQ,↓Q,↓QT,Aic,↓H xK,↓H xv,Int.reduceEq,V5.2.1,↓H xI,↓H xk];rw[xm,xl];simp only[QY,xL,yg,xX,QE,yC,xn,yy,xJ]
  .rw[g,S];exact((xt.G7 xD _).G7 xE _)
 .intro yb;let⟨k,S,N⟩:=tB xj
  have u:=xj.ext N;have x8:=(N.N yp).t xy;have yM:Lv k i:=by grind
  have yA:k.AU y 0 2=A (M.c (BA c b).v):=B2 x8;have yq:BV (.ld 2) [.p y 0] X (.S (M.c (BA c b).v))=L:=M2 xy;have yI:k.AA f 2=A E:=AJ u.gx 2;have ys:BV .Dg [.p f 2] X E=L:=Jd xj.gx B;have x5:=(N.N (J.lv xd)).t xx;have yK:=(N.N (J.lv xe)).t x7;let⟨p,xn,xJ,g⟩:=Q_ x5 (CS u.M.o).2
  have yG:f≠i:=by grind
  have yH:f≠x:=by grind
  have yx:y≠i:=by grind
  have xz:p.N f=k.N f:=by rw[g,AY,Ad yG]
  have yt:BV .Dg [.p f 2] p E=L:=Jd (xz.t u.gx) B;have yr:BV (.ld 2) [.p y 0] p (.S (M.c (BA c b).v))=L:=M2 (by rw[g,AY,Ad yx];grind);let⟨U,yB,yD,xb⟩:=Ha (b:=p) (a:=x) (f:=[.i .u8 0,.n 0]) (by rw[g,AY,Ad xf.symm];grind) (BA c b).v
  have yu:BV .Dg [.p f 2] U E=L:=Jd (by rw[xb,AY,Ad yH];exact xz.t u.gx) B;have yz:U.AU i 0 1=A [xo]:=B2 (by rw[xb,AY,Ad xf,g,AY,Af B]);have xF:∀a,a≠i->a≠x->U.N a=k.N a:=λa W r=>by rw[xb,AY,Ad r,g,AY,Ad W]
  have yO:∀a,Lv U a=Lv k a:=by grind
  refine⟨xo,E,xu,xM,U,Bd B B ?_,?_,?_,?_,?_,?_⟩;.rw[yb]at xk;rw[V5.1];simp only[↓xN,↓xO,↓xP,↓xQ,↓Q,↓QT,Aic,↓H xK,↓H xv,Int.reduceEq,V5.2.1,↓H xI,↓H xk];rw[xm,xl];simp only[↓Q,↓QT,Aic,↓H xL,V5.2.2,↓H S,↓H yA,yq,↓MP,↓H yI,ys,↓H xn,yt,yr,↓H yB,yu,↓H yz,↓H yD];rfl
  .rw[xb,g];exact(((xt.AQ N).G7 xD _).G7 xE _)
  .exact u.M.Av λa e xc=>⟨xF a (λo=>by subst o;exact(n _ xd).2.2 (.j (.i xc))) (λo=>by subst o;exact(n _ xe).2.2 (.j (.i xc))),by grind⟩
  .exact u.ot.Av λa e xC=>⟨xF a (λo=>by subst o;exact(n _ xd).2.2 (.j (.j xC))) (λo=>by subst o;exact(n _ xe).2.2 (.j (.j xC))),by grind⟩
  .intro a e;have:=(n a (xh.lv e)).2.2;exact⟨λs=>this (.j (.i s)),Aih λs=>this (.j (.j s))⟩
  .exact xi.tm
def EJ:D->C K->C BL
 |_,[]=>[]
 |a,c::b=>⟨.n c,.n (a:K),a⟩::EJ (a+1) b
def g2(c:K):∀(b:C K)(a:D),EJ a (b++[c])=EJ a b++[⟨.n c,.n ((a+b.l:D):K),a+b.l⟩]
 |[],a=>rfl
 |d::b,a=>by show _::EJ (a+1) (b++[c])=_::(EJ (a+1) b++_);rw[g2 c b (a+1),AiD,show a+1+b.l=a+(b.l+1) by omega]
def rv(a b:K):J8 Ac [0] (.n a) (.n b)=A (a==b):=by rw[<-Lb];show KD (A (Kf a b)) (A L)=_;cases Kf a b<;>rfl
def bV(a:K):∀(b:C K)(c d:D),(b.idxOf a=b.l->G3 Ac [0] (.n a) (EJ c b) d=A O)/\(b.idxOf a<b.l->∃f:BL,G3 Ac [0] (.n a) (EJ c b) d=A (A (d+b.idxOf a,f))/\f.Dv=.n ((c+b.idxOf a:D):K))
 |[],c,d=>⟨λ_=>rfl,λg=>by cases g⟩
 |e::b,c,d=>by
  have i:=bV a b (c+1) (d+1);have o:G3 Ac [0] (.n a) (EJ c (e::b)) d=An (a==e) (A (A (d,(⟨.n e,.n (c:K),c⟩:BL)))) (G3 Ac [0] (.n a) (EJ (c+1) b) (d+1)):=by show@Option.casesOn Ak (λ_=>Aj (Aj (D×BL))) (J8 Ac [0] (.n a) (.n e)) O (λj=>An j (A (A (d,(⟨.n e,.n (c:K),c⟩:BL)))) (G3 Ac [0] (.n a) (EJ (c+1) b) (d+1)))=_;rw[rv]
  rw[o,Akw,AiD];by_cases h:e=a;.subst h;rw[Aj6];exact⟨λg=>(by simp at g),λ_=>⟨_,B,B⟩⟩
  .have k:(a==e)=Ac:=by simpa usingλf=>h f.s
   have l:(e==a)=Ac:=by simpa using h
   rw[k,l];simp only[cond_false];refine⟨λg=>i.1 (by omega),λg=> ?_⟩;obtain⟨f,m,n⟩:=i.2 (by omega);exact⟨f,by rw[m,show d+1+b.idxOf a=d+(b.idxOf a+1) by omega],by rw[n,show c+1+b.idxOf a=c+(b.idxOf a+1) by omega]⟩
def w_{b:C K}{h:D}(m:d.N e=A (.Bu (EJ 0 b) h))(c:K):E7 Ac [0] (.n 0) L d [.m e,.n c]=A (if b.idxOf c=b.l then .AC [.n 0,.b Ac]else .AC [.n ((b.idxOf c:D):K),.b L]):=by
 have g:=bV c b 0 0;have n:Ql d (.m e)=A (EJ 0 b):=by show(match Ir (d.N e)with|some (k,_)=>A k|none=>O)=_;rw[m];rfl
 have o:Mh Ac [0] (.n c) (EJ 0 b)=G3 Ac [0] (.n c) (EJ 0 b) 0:=B;unfold E7;simp only[n,o];by_cases f:b.idxOf c=b.l;.rw[g.1 f,Af f];rfl
 .obtain⟨p,i,j⟩:=g.2 (by have:=List.idxOf_le_length (l:=b) (a:=c);omega);rw[i,Ad f];simp only[j,Aix];rfl
def AaZ{a:C K}{c:D}(g:d.N e=A (.Bu (EJ 0 a) c)){b:K}(h:a.idxOf b=a.l):Hw Ac [0] (.n 0) d [.m e,.n b]=A (.AC [.n 0,.n (c:K)],d.set e (.Bu (EJ 0 a++[⟨.n b,.n 0,c⟩]) (c+1))):=by have f:=(bV b a 0 0).1 h;have i:Mh Ac [0] (.n b) (EJ 0 a)=G3 Ac [0] (.n b) (EJ 0 a) 0:=B;unfold Hw;simp only[g,dh,i,f];rfl
def fV(d e:F):∀(b:C K)(a c:D),Qc (a+b.l) (EJ a b++[⟨d,e,a+b.l⟩]) c=A (c+b.l)
 |[],a,c=>by show An (Bb (a+0) (a+0)) (A c) O=_;rw[AiG];rfl
 |f::b,a,c=>by show An (Bb a (a+(f::b).l)) (A c) (Qc (a+(f::b).l) (EJ (a+1) b++[⟨d,e,a+(f::b).l⟩]) (c+1))=_;rw[G0 (by rw[AiD];omega),AiD,show a+(b.l+1)=a+1+b.l by omega];show Qc (a+1+b.l) (EJ (a+1) b++[⟨d,e,a+1+b.l⟩]) (c+1)=_;rw[fV d e b (a+1) (c+1),show c+1+b.l=c+(b.l+1) by omega]
def ku(c:BL->BL)(b:BL):∀a:C BL,Oi c (a++[b]) a.l=a++[c b]
 |[]=>rfl
 |d::a=>by show d::Oi c (a++[b]) a.l=_;rw[ku c b a];rfl
def g1:∀(a:C K)(b:D),(EJ b a).l=a.l
 |[],_=>rfl
 |c::a,b=>by show(EJ (b+1) a).l+1=_;rw[g1 a];rfl
def rB{c:Aa}{a:C K}{d:K}(i:b.N c=A (.Bu (EJ 0 a++[⟨.n d,.n 0,a.l⟩]) (a.l+1))):HM b [.m c,.n (a.l:K),.n (a.l:K)]=A (Ax,b.set c (.Bu (EJ 0 (a++[d])) (a++[d]).l)):=by have f:=fV (.n d) (.n 0) a 0 0;rw[Aix]at f;have g:=ku (W8 (.n (a.l:K))) ⟨.n d,.n 0,a.l⟩ (EJ 0 a);rw[g1]at g;show(match Pw (b.N c)with|some (e,h)=>(match Qc a.l e 0 with|some j=>A (Ax,b.set c (.Bu (Oi (W8 (.n (a.l:K))) e j) h))|none=>O)|none=>O)=_;rw[i];simp only[dh,f,Aix,g];rw[g2,Aio,Ajg,Aix];rfl
