/- Part of the proof. -/
import Derived.Test.YtmnfpdedgnfeiaaGreatMbg
set_option linter.all false
noncomputable section
open Option renaming some->A,getD->Option.g,bind->Option.b
open _root_ renaming rfl->B,List->C,Nat->D,Int->K,if_neg->Ad,if_pos->Af,Option->Aj,Bool->Ak,cond->An,decide_eq_false->Ba,decide_eq_true->Be
open Bool renaming true->L,false->Ac
open Decidable renaming decide->Au
open List renaming replicate->Bv,length->List.l,map->List.m,take->List.t,drop->List.d
open Go.IntKind renaming i64->Go.IntKind.n
open Array renaming toList->Array.l
open Eq renaming trans->Eq.t,symm->Eq.s
open Or renaming inl->Or.i,inr->Or.j
open Int renaming toNat->Int.n
namespace Go.Proofs.YtmnfpdedgnfeiaaGreat
open Go.Fg
def Cn.Xa{b:CW}{d:G}{c:Ah}{e:D->Aa}{a:Aa->Prop}(g:Cn b d c e a){f:Aa}(o:a f)(i:Ce):Cn b (d.set f i) c e a:=by obtain⟨j,k,h,rfl,l⟩:=g;exact⟨j,k,h.Av λp n m=>⟨by rw[AY,Ad P],by grind⟩,B,P⟩
variable{g:G}
def Cn.lk{d:CW}{f:G}{e:Ah}{h:D->Aa}{b:Aa->Prop}(j:Cn d f e h b){i:F}(q:∀a,¬AE i a->b a)(c:IY (λa=>¬AE i a) f g):Cn d g e h b:=by obtain⟨m,n,k,rfl,o⟩:=j;exact⟨m,n,k.Av λa l p=>⟨c.o a P,by rw[c.l];grind⟩,B,λa l=>⟨by rw[c.l];grind,P⟩⟩
def AF.rd{d:G}{h:F}{g:C _}(j:AF d h M.c 2 g){b:D}{i:M}(e:g[b]? =A i):∃a,AZ 2 [h,.n b]=A (.p a (b*2))/\d.AU a (b*2) 2=A (M.c i):=by
 let⟨a,c⟩:=Dm (f:=M.c) (w:=2) (λ_=>B) j e
 exact⟨a,c.ia,c.AU (f:=M.c) (λ_=>B) e⟩
def KK{a:C _}{b:D}{c:M}(d:a[b]? =A c):Cd a b=c:=by unfold Cd;grind
variable{i:CW}
def AaR{b:Ah}{m:D->Aa}{f:Aa->Prop}(o:Cn i g b m f)(n:Gg b.Ae)(a:EW)(y:a.op=1\/a.op=3\/a.op=4)(l:∀w∈a.Dj,II w b.Ae.l=L){d:Aa}{x:C F}(r:g.N d=A (.I 2 x))(k:f d):∃h c,W9 (Ar 74) [.p i.x 0,.S a.c8] g=A (.AC [.S (M.c (DE b a).2.1),.n (DE b a).2.2],h)/\A1 2 h [.p d 0,.S (M.c (DE b a).2.1)]=A (Ax,c)/\c.AU d 0 2=A (M.c (DE b a).2.1)/\Cn i c (DE b a).1 m f/\∀e,f e->e≠d->c.N e=g.N e:=by
 have H:(BA b.Ae a).Gx=[]:=by unfold BA;grind
 let⟨h,s,p,q⟩:=iM o n a (by grind) l (by grind) (λE l=>by grind)
 let⟨c,v,u,j⟩:=Ha ((q d k).t r) (DE b a).2.1
 refine⟨h,c,s,v,u,by rw[j];exact p.Xa k _,λe z t=> ?_⟩;rw[j,AY,Ad t];grind
structure e_(e:C AG)(c:A8)(a:AD)(b:C M):Prop where
 AX:1<=b.l
 SS:a.op=4->(b.l:K)=DZ a.Bk/\0<DZ a.Bk/\∀d∈b,QX d
 KU:a.op=6\/a.op=12->2<=b.l
 Xq:a.op=10\/a.op=12\/a.op=13->∀d∈b,II d e.l=L
 rd:(0<=c.F3/\c.F3<=1000)/\(0<=c.Ao/\c.Ao<=1000)
def uQ{N:CW}{n:G}{k:Ah}{xm:D->Aa}{o:Aa->Prop}{t:F}(xa:Cn N n k xm (λe=>o e\/¬AE t e))(yl:∀e,o e->AE t e)(xN:Gg k.Ae){s:C M}(x5:AF n t M.c 2 s){j:A8}{d:AD}(v:e_ k.Ae j d s):∃z,W9 (Ar 76) [.p N.x 0,.S (A8.c j),.S (AD.c d),t] n=A (.AC [.S (M.c (CV k j d s).2.1),.n (CV k j d s).2.2],z)/\Cn N z (CV k j d s).1 xm o/\BD o n z:=by
 let⟨x9,xd,xY,xU,xM,xR,xL,yn⟩:=box n (.I 2 (A8.c j))
 let⟨xn,xy,xZ,xV,xp,xS,x3,yo⟩:=box xd (.I 4 (AD.c d))
 let⟨y,r,x0,xW,xq,xx,ym,yp⟩:=box xy (.I 2 [.i .u8 0,.n 0])
 have yb:∀(xb:F->G->R),bl (.p n.next 0) (n.V (.I (BK (F.I (.S (A8.c j)))) (F.I (.S (A8.c j))))) xb=xb (.p x9 0) xd:=Em n (.I 2 (A8.c j)) xY xU;have yc:∀(xb:F->G->R),bl (.p xd.next 0) (xd.V (.I (BK (F.I (.S (AD.c d)))) (F.I (.S (AD.c d))))) xb=xb (.p xn 0) xy:=Em xd (.I 4 (AD.c d)) xZ xV;have yd:=J2 xy x0 xW;have Z:=xM.AQ (xp.AQ xq);have yk:=(xq.N (xp.lv xL)).t ((xp.N xL).t xR);have xw:=(xq.N x3).t xS;have xO:r.AA xn 0=A (.i .u8 d.op):=AJ xw 0;have xP:r.AA xn 1=A (.s d.Bk):=AJ xw 1;have yr:r.AU xn 0 4=A (AD.c d):=B2 xw;have x4:¬Lv n y:=by grind
 have xt:=xa.V Z;have xl:=x5.ext Z;have xs:Fo (λe=>o e\/¬AE t e) n r y:=by grind
 have xr:∀e,o e->Fo (λe=>o e\/¬AE t e) n r e:=by grind
 have ye:∀e,o e->e≠y:=λe xz k=>x4 (k▸xa.Dy P);let⟨h,xJ⟩:=Bo (b:=s) (a:=0) v.AX
 let⟨x2,xK,yq⟩:=xl.rd xJ
 have xK:AZ 2 [t,.n 0]=A (.p x2 0):=xK;have J:=KK xJ;have xc:∀xo:M,∃z,A1 2 r [.p y 0,.S (M.c xo)]=A (Ax,z)/\z.AU y 0 2=A (M.c xo)/\Cn N z k xm o/\BD o n z:=λxo=>by
  let⟨g,W,U,xG⟩:=Ha xx xo
  exact⟨g,W,U,by rw[xG];exact(xt.Xa xs _).sub xr,λe xz=>by rw[xG,AY,Ad P];exact Z.N (xa.Dy P)⟩
 unfold CV;by_cases xi:d.op=4
 .rw[Af xi];let⟨x6,x7,x8⟩:=v.SS xi
  let⟨g,xQ,xu⟩:=B6.F9 (t:=λe=>¬AE t e) (B6.cons ((Fs.im (c:=r) (a:=.s d.Bk) B).up (by omega)) (B6.cons (Fs.CC (a:=M.c) (g:=2) (λe d=>d) (λ_=>B) (λ_=>B) xl) (B6.nil 2 r))) (by omega)
  have T:=th d.Bk s x6 x7 x8 r _ g xQ;have xT:g.N y=A (.I 2 [.i .u8 0,.n 0]):=(xu.o y P).t xx;let⟨m,X,V,xH⟩:=Ha xT (Iu d.Bk s)
  refine⟨m,Bd B B ?_,by rw[xH];exact((xt.lk P xu).Xa xs _).sub xr,λe xz=>by rw[xH,AY,Ad P,xu.o e P];exact Z.N (xa.Dy P)⟩
  rw[NG.1];simp only[↓yb,↓yc,↓yd,↓Q,↓QT,↓H xO,xi,↓H xP,↓H T,↓H X,↓H V]
 rw[Ad xi];by_cases xE:d.op=6
 .rw[Af xE];let⟨Y,xe⟩:=Bo (b:=s) (a:=1) (v.KU Om)
  let⟨xA,xg,ya⟩:=xl.rd xe
  have xg:AZ 2 [t,.n 1]=A (.p xA 2):=xg;have xk:=Nq h;rw[J,(KK xe)];by_cases xj:h.Ai=0
  .let⟨g,W,U,u,x⟩:=xc Y
   rw[Be xj]at xk;rw[Af xj];refine⟨g,Bd B B ?_,u,x⟩;rw[NG.1];simp only[QY,Int.reduceEq,xk.H B,QB, *]
  .let⟨g,W,U,u,x⟩:=xc h
   rw[Ba xj]at xk;rw[Ad xj];refine⟨g,Bd B B ?_,u,x⟩;rw[NG.1];simp only[QY,Int.reduceEq,xk.H B,QB,NG.2.2, *]
 rw[Ad xE];by_cases xF:d.op=7
 .rw[Af xF,J];let⟨g,W,U,u,x⟩:=xc h
  refine⟨g,Bd B B ?_,u,x⟩;rw[NG.1];simp only[QY,Int.reduceEq, *]
 rw[Ad xF];have xv:∀p:EW,(p.op=1\/p.op=3\/p.op=4)->(∀q∈p.Dj,II q k.Ae.l=L)->∃g m,W9 (Ar 74) [.p N.x 0,.S p.c8] r=A (.AC [.S (M.c (DE k p).2.1),.n (DE k p).2.2],g)/\A1 2 g [.p y 0,.S (M.c (DE k p).2.1)]=A (Ax,m)/\m.AU y 0 2=A (M.c (DE k p).2.1)/\Cn N m (DE k p).1 xm o/\BD o n m:=λp xX x1=>by
  let⟨g,m,T,X,V,E,I⟩:=AaR xt xN p xX x1 xx xs
  exact⟨g,m,T,X,V,E.sub xr,λe xz=>(I e P P).t (Z.N (xa.Dy P))⟩
 by_cases xB:d.op=10
 .rw[Af xB,J];have xI:BE [(.i .u8 0),(.i .u8 0),(.n 0),(.i .u8 0),(.n 0),(.i .u8 0),(.n 0),(.n 0)] [(0,1),(1,2)] [(.i .u8 1),.S (M.c h)]=A (.S (EW.c8 ⟨1,h,AK,AK,0⟩)):=B;let⟨g,m,T,X,V,E,I⟩:=xv ⟨1,h,AK,AK,0⟩ P (λq xf=>by
   have:q=h:=by simpa[EW.Dj]using xf
   subst this;exact v.Xq Om q P)
  refine⟨m,Bd B B ?_,E,I⟩;rw[NG.1];simp only[QY,Int.reduceEq, *]
 rw[Ad xB];by_cases xh:d.op=12
 .rw[Af xh];let⟨Y,xe⟩:=Bo (b:=s) (a:=1) (v.KU Om)
  let⟨xA,xg,ya⟩:=xl.rd xe
  have xg:AZ 2 [t,.n 1]=A (.p xA 2):=xg;rw[J,(KK xe)];let⟨yf,yg,yh⟩:=v.rd
  have yj:=Ww 1000 j.F3 (by unfold DO;omega) (by unfold DO;omega);have yi:=GJ (a:=1000*j.F3) (b:=j.Ao) (by omega) (by omega);have xI:BE [(.i .u8 0),(.i .u8 0),(.n 0),(.i .u8 0),(.n 0),(.i .u8 0),(.n 0),(.n 0)] [(0,1),(1,2),(3,2),(7,1)] [(.i .u8 3),.S (M.c h),.S (M.c Y),.n (1000*j.F3+j.Ao)]=A (.S (EW.c8 ⟨3,h,Y,AK,1000*j.F3+j.Ao⟩)):=B;let⟨g,m,T,X,V,E,I⟩:=xv ⟨3,h,Y,AK,1000*j.F3+j.Ao⟩ P (λq xf=>by
   have:q=h\/q=Y:=by simpa[EW.Dj]using xf
   rcases this with rfl|rfl;.exact v.Xq (.j (.i xh)) q P
   .exact v.Xq (.j (.i xh)) q P)
  refine⟨m,Bd B B ?_,E,I⟩;rw[NG.1];simp only[QY,Int.reduceEq, *]
 rw[Ad xh];by_cases xC:d.op=13
 .rw[Af xC,J];have xI:BE [(.i .u8 0),(.i .u8 0),(.n 0),(.i .u8 0),(.n 0),(.i .u8 0),(.n 0),(.n 0)] [(0,1),(1,2)] [(.i .u8 4),.S (M.c h)]=A (.S (EW.c8 ⟨4,h,AK,AK,0⟩)):=B;let⟨g,m,T,X,V,E,I⟩:=xv ⟨4,h,AK,AK,0⟩ P (λq xf=>by
   have:q=h:=by simpa[EW.Dj]using xf
   subst this;exact v.Xq Om q P)
  refine⟨m,Bd B B ?_,E,I⟩;rw[NG.1];simp only[QY,Int.reduceEq, *]
 rw[Ad xC];by_cases xD:d.op=14
 .rw[Af xD,J];let⟨g,W,U,u,x⟩:=xc (MS h)
  refine⟨g,Bd B B ?_,u,x⟩;rw[NG.1];simp only[QY,Int.reduceEq,(ti h).H B, *]
 .rw[Ad xD,J];let⟨g,W,U,u,x⟩:=xc (KF d h)
  refine⟨g,Bd B B ?_,u,x⟩;rw[NG.1];simp only[QY,NG.2.1,(tj d h).H B, *]
def m6{b c:AP}(e:∀a,GX b a=GX c a):∀d:C AH,KW b d=KW c d
 |[]=>rfl
 |a::f=>by unfold KW;rw[e a,m6 e f]
def m7{b:AP}:∀{f:C AH}{d:C M},KW b f=A d->d=f.m (A9 b)
 |[],d,a=>by cases a;rfl
 |g::h,d,a=>by
  unfold KW at a
  cases c:GX b g with
  |none=>rw[c]at a;cases a
  |some j=>
   cases e:KW b h with
   |none=>rw[c,e]at a;cases a
   |some i=>
    rw[c,e]at a;cases a
    rw[m7 e,Ai9];unfold A9;rw[c];rfl
structure Th(j:CW)(b:Ah)(m:A8)(k f:D)(i:AP)(h:Ab)(a:AD)(d:C M):Prop where
 hi:m.F3=(k:K)
 hj:m.Ao=(f:K)
 hc:b.T[k]? =A i
 ha:∃g:D,i.A4=(g:K)/\j.l[g]? =A h
 hn:h.Ay[f]? =A a
 hf:f<i.AI.l
 hv:KW i a.AT=A d
 hl:a.AT.l<1000000
 F_:1<=d.l
 E8:Gg b.Ae
 Aq:0<=b.Aq/\b.Aq<=6000
 cQ:¬(a.op=8\/a.op=9)->a.op≠11->a.op≠5->e_ b.Ae m a d/\F1 b k f 0
 sw:a.op=5->∃c e,d[0]? =A c/\d[1]? =A e/\(-9223372036854775806<=c.n/\c.n<=9223372036854775807)/\0<=(D1 c e).1/\F1 b k f (D1 c e).1.n
 st:a.op=11->∃c e l,d[0]? =A c/\d[1]? =A e/\d[2]? =A l/\(∀p∈[c,e,l],II p b.Ae.l=L)/\(BA b.Ae ⟨2,c,e,l,0⟩).Gx.l<1000000/\∀o∈(BA b.Ae ⟨2,c,e,l,0⟩).Gx,Ju b o
 call:a.op=8\/a.op=9->(∃n,i.AB[f]? =A n/\n.l<1000000)/\b.T.l<=400/\((Cd d 0).Ai≠5->∃(g:D)(h:Ab),CO j.l a.Bk=(g:K)/\j.l[g]? =A h/\Te j.l h)
structure nl(g:CW)(h:Ah)(l:D->Aa)(c:Aa->Prop)(m:A8)(k:AD)(j:C M)(i b:G)(d e:Aa)(f:F):Prop where
 H:Cn g b h l (λa=>(c a\/a=d\/a=e)\/¬AE f a)
 ap:∀a,c a\/a=d\/a=e->AE f a
 o:AF b f M.c 2 j
 gq:b.N d=A (.I 2 (A8.c m))
 gn:b.N e=A (.I 4 (AD.c k))
 T:BD c i b
variable{k:D}{l:AP}{u:Aa->Prop}
def Aex{o:G}{e:Ah}{U:D->Aa}(X:Cn i o e U u){j:A8}{w:D}{xr:Ab}{f:AD}{xf:C M}(d:Th i e j k w l xr f xf)(q:K)(xS:e.Aq≠6000):∃v h r I,xx W9 36 [.p i.x 0,.S (A8.c j),.n q] o=jj W9 36 3 [.b (Au (f.op=8\/f.op=9)),.i .u8 f.op,.p i.x 0,.p r 0,I,.p (U k) 0,.p h 0] v/\nl i (Bm e j q) U u j f xf o v h r I:=by
 let⟨h,T,xR,xP,xk,xs,xW,xX⟩:=box o (.I 2 (A8.c j))
 have xl:=X.V xk;have xQ:∀m,u m->Lv o m:=λm g=>X.Dy g;obtain⟨xC,s,xc,rfl,xu⟩:=xl;have W:Fo u o T h:=by grind
 let⟨xq,xv,xw⟩:=d.ha
 have x7:T.AA i.x 5=A (.n e.Aq):=AJ xc.N 5;let⟨xN,xO⟩:=d.Aq
 have xK:=GJ (a:=e.Aq) (b:=1) (by omega) (by omega);let⟨E,x2,z,xo⟩:=xc.MH (e.Aq+1)
 have xa:=xo.FQ (by grind) xu;have x6:E.AA i.x 2=A s.cv:=AJ z.N 2;have S:=(xa.2 h W).t xs;have xD:E.AA h 0=A (.n k):=by rw[AJ S];show A (F.n j.F3)=_;rw[d.hi]
 let⟨xJ,xT,x1⟩:=z.Lk d.hc
 have V:=z.Bw k l d.hc;have x0:E.AA (s.pc k) 6=A (s.fv k):=AJ V.N 6;have xE:E.AA h 1=A (.n w):=by rw[AJ S];show A (F.n j.Ao)=_;rw[d.hj]
 let⟨xM,xy⟩:=Bo d.hf
 let⟨xI,p,xU,x3,J,Y⟩:=V.eu xy q
 have xp:=z.OD d.hc (t:=.AI k) B Y J;have xb:=Y.FQ (by grind) xa.1;have xe:=(xb.2 h W).t S;have x5:p.AA i.x 0=A (Z Ab.c i.l):=AJ xp.N 0;have xZ:p.AA (s.pc k) 0=A (.n xq):=by rw[AJ J.N];show A (F.n l.A4)=_;rw[xv]
 have xF:p.AA h 1=A (.n w):=by rw[AJ xe];show A (F.n j.Ao)=_;rw[d.hj]
 let⟨r,xt,xA,xz,x,R,xg,xY⟩:=box p (.I 4 (AD.c f))
 let⟨x8,x4⟩:=F0 p (b:=4) [(.i .u8 0),(.s []),(.n 0),.sn] (c:=AD.c f) xA xz B B
 have xH:xt.AA r 3=A (Z AH.c f.AT):=AJ R 3;have xj:=J.ext x;let⟨I,v,xV,xi,y,xd⟩:=iH xj f.AT ((m6 (b:={l with AI:=l.AI.set w q}) (c:=l) (λ_=>B) f.AT).t d.hv) d.hl
 have xG:v.AA r 0=A (.i .u8 f.op):=AJ ((y.N xg).t R) 0;have xL:Bm e j q=(Ah.AM ⟨e.T,e.Ae,e.round,e.Aq+1⟩ k {l with AI:=l.AI.set w q}):=by unfold Bm Ah.AM;rw[d.hi,d.hj];simp only[Aif,DM d.hc]
 have xh:Lv p h:=by grind
 have xm:Cn i p (Bm e j q) s.pc (Fo u o T):=⟨xC,s,by grind,B,xb.1⟩;have xn:=(xm.V x).V y;refine⟨v,h,r,I,?_,xn.sub ?_,?_,xi,(y.N (x.lv xh)).t ((x.N xh).t xe),(y.N xg).t R,λm g=> ?_⟩
 .rw[MY.1];simp only[QZ,MY.2.1,H (Da xw),H (Gq d.hn), *];by_cases N:f.op=8;.rw[Be (.i N)];simp only[↓Q,↓QT,N]
  .by_cases P:f.op=9;.rw[Be (.j P)];simp only[↓Q,↓QT,Aic,Int.reduceEq,P]
   .rw[Ba (by grind)];simp only[↓Q,↓QT,Aic,N,P]
 .intro m g;rcases g with(g|rfl|rfl)|g;.grind
  .grind
  .grind
  .exact .j ⟨λxB=>g (xd m xB),xi.Dh g⟩
 .intro m g;refine xd m ?_;rcases g with g|rfl|rfl;.grind
  .grind
  .grind
 .grind
variable{d e:D}
def F1.of{a b:Ah}{c:D}(f:F1 a c d e)(g:b.T=a.T):F1 b c d e:=by unfold F1 at f⊢;grind
variable{a:D}
def F1.PN{b:Ah}{f:D}(k:F1 b a e f)(g:A8)(n:K):F1 (Bm b g n) a e f:=by
 let⟨i,m,h,c,l,d⟩:=k
 by_cases j:g.F3.n=a;.subst j;exact⟨_,_,h,AiF (Aid.1 c).1,by rw[DM c];grind,d⟩
 .exact⟨i,m,h,by show(b.T.set _ _)[a]? =_;grind,l,d⟩
def Ju.PN{a:Ah}{d:BM}(i:Ju a d)(c:A8)(b:K):Ju (Bm a c b) d:=by
 let⟨j,k,e,f,g,h⟩:=i
 exact⟨j,k,e,f,g,h.PN c b⟩
def kp{b:Ah}{a:EW}(c:a.op=1\/a.op=3\/a.op=4):(DE b a).1.T=b.T:=by
 unfold DE;split;.rfl
 .have d:(BA b.Ae a).Gx=[]:=by
   unfold BA
   grind
  grind
def vw(a:Ah)(d:A8)(c:AD)(b:C M):(CV a d c b).1.T=a.T:=by
 unfold CV
 repeat' split
 all_goals first|rfl|exact kp (.i B)|exact kp (.j (.i B))|exact kp (.inr (.inr rfl))
variable{h:D}
def bY{d:Ah}{b:A8}{j:D}{g:AP}{k:Ab}{e:AD}{a:C M}(f:Th i d b j h g k e a)(c:K)(o:d.Aq≠6000):
  Ev i.l d b c=if e.op=8\/e.op=9 then H0 i.l (Bm d b c) b e (Cd a 0)
   else if e.op=11 then((DE (Bm d b c) ⟨2,Cd a 0,Cd a 1,Cd a 2,0⟩).1,(DE (Bm d b c) ⟨2,Cd a 0,Cd a 1,Cd a 2,0⟩).2.2)
   else if e.op=5 then((Bm d b c).Aw j h (D1 (Cd a 0) (Cd a 1)).1.n (D1 (Cd a 0) (Cd a 1)).2,0)
   else if(CV (Bm d b c) b e a).2.2≠0 then((CV (Bm d b c) b e a).1,(CV (Bm d b c) b e a).2.2)else((CV (Bm d b c) b e a).1.Aw j h 0 (CV (Bm d b c) b e a).2.1,0):=by
 let⟨p,q,r⟩:=f.ha
 have l:(Bm d b c).at j={g with AI:=g.AI.set h c}:=by refine DM ?_;unfold Bm;rw[f.hi,f.hj];simp only[Aif,DM f.hc];exact AiF (Aid.1 f.hc).1
 have m:Ch i.l {g with AI:=g.AI.set h c}=k:=by unfold Ch;grind
 have n:e.AT.m (A9 {g with AI:=g.AI.set h c})=a:=(m7 f.hv).s
 unfold Ev
 rw[Ad o]
 simp only[f.hi,f.hj,Aif,l,m,f.hn,Aiz,n]
def iD{j:CW}{V:G}{d:Ah}{t:D->Aa}{q:Aa->Prop}(xh:Cn j V d t q)(xU:Lx j){b:A8}{xP xd:D}{xm:AP}{xX:Ab}{g:AD}{E:C M}(e:Th j d b xP xd xm xX g E)(f:K):∃xs xf,W9 (Ar 36) [.p j.x 0,.S (A8.c b),.n f] V=A (.n (Ev j.l d b f).2,xs)/\Cn j xs (Ev j.l d b f).1 xf q/\BD q V xs/\∀r,r<d.T.l->xf r=t r:=by
 by_cases xO:d.Aq=6000
 .let⟨o,xL,yA,yw,xH,yt,yC,yD⟩:=box V (.I 2 (A8.c b))
  have xI:=xh.ext xH;have yq:=xI;obtain⟨yF,yo,xW,rfl,yu⟩:=xI;have yG:xL.AA j.x 5=A (.n d.Aq):=AJ xW.N 5;have x6:Ev j.l d b f=(d,5):=by unfold Ev;grind
  refine⟨xL,yo.pc,Bd B B ?_,by grind,λa h=>xH.N (xh.Dy h),P⟩;rw[x6,MY.1];simp only[QY, *]
 let⟨xa,o,xg,T,w,c⟩:=Aex xh e f xO
 have yy:(Bm d b f).T.l=d.T.l:=Aiv;have ym:=B2 c.gq;have yl:xa.AU xg 0 4=A (AD.c g):=B2 c.gn;have Y:∀a,q a->(q a\/a=o\/a=xg)\/¬AE T a:=by grind
 let⟨k,xc⟩:=Bo (b:=E) (a:=0) e.F_
 let⟨ye,xx,yk⟩:=c.o.rd xc
 have xx:AZ 2 [T,.n 0]=A (.p ye 0):=xx;have xF:=KK xc;have x5:(Bm d b f).T[xP]? =A {xm with AI:=xm.AI.set xd f}:=by unfold Bm;rw[e.hi,e.hj];simp only[Aif,DM e.hc];exact AiF (Aid.1 e.hc).1
 rw[bY e f xO];by_cases N:g.op=8\/g.op=9
 .rw[Af N];rw[Be N]at w;let⟨⟨yg,x8,x7⟩,yz,yv⟩:=e.call N
  let⟨y,xf,xz,v,I,yr⟩:=uO c.H xU e.hi e.hj g k x5 (e:=yg) x8 x7 (by grind) (by grind)
  rw[xF];refine⟨y,xf,Bd B B ?_,v.sub Y,λa h=>(I a (Y a h)).t (c.T a h),P⟩;rw[w,MY.2.2.2.1];simp only[QY, *]
 rw[Ad N];rw[Ba N]at w;by_cases U:g.op=11
 .rw[Af U];let⟨yp,m,xE,X,W,xN,yc,yd,yb⟩:=e.st U
  rw[xc]at X;cases X;let⟨xy,S,xS⟩:=c.o.rd W
  let⟨yf,xQ,yE⟩:=c.o.rd xN
  have S:AZ 2 [T,.n 1]=A (.p xy 2):=S;have xQ:AZ 2 [T,.n 2]=A (.p yf 4):=xQ;rw[xF,KK W,KK xN];have ys:BE [(.i .u8 0),(.i .u8 0),(.n 0),(.i .u8 0),(.n 0),(.i .u8 0),(.n 0),(.n 0)] [(0,1),(1,2),(3,2),(5,2)] [(.i .u8 2),.S (M.c k),.S (M.c m),.S (M.c xE)]=A (.S (EW.c8 ⟨2,k,m,xE,0⟩)):=B;let⟨y,xz,v,I⟩:=iM c.H e.E8 ⟨2,k,m,xE,0⟩ P yc yd (λyn ya=>(yb yn ya).PN b f)
  refine⟨y,t,Bd B B ?_,v.sub Y,λa h=>(I a P).t (c.T a h),P⟩;rw[w,MY.2.2.2.1];simp only[QY, *]
 rw[Ad U];by_cases J:g.op=5
 .rw[Af J];let⟨yp,m,X,W,x9,yB,xb⟩:=e.sw J
  rw[xc]at X;cases X;let⟨xy,S,xS⟩:=c.o.rd W
  have S:AZ 2 [T,.n 1]=A (.p xy 2):=S;rw[xF,KK W];have x4:=uP k m x9;let⟨yj,xt,xw,xv,u,xr,xR,xe⟩:=box xa (.I 2 [.i .u8 0,.n 0])
  have xG:=J2 xa xw xv;let⟨z,xC,xB,x⟩:=Ha xr (D1 k m).2
  have xi:=c.H.V u;have Z:Cn j z (Bm d b f) t (Fo (λa=>(q a\/a=o\/a=xg)\/¬AE T a) xa xt):=by rw[x];exact xi.Xa P _
  obtain⟨r,yx⟩:∃r:D,(D1 k m).1=r:=⟨(D1 k m).1.n,by omega⟩;have xM:(D1 k m).1.n=r:=by omega
  rw[xM]at xb;let⟨x0,xY,yi,xZ,xD,xl,xu,x1,x2,x3,xn,xo,xp,R,xq,xj,xJ⟩:=Z.Aw (xb.PN b f) (D1 k m).2
  have xk:z.AA o 1=A (.n xd):=by have:=c.H.Dy (c:=o) P;rw[AJ (f:=2) (c:=A8.c b) (by rw[x,AY,Ad P];exact(u.N this).t c.gq)];show A (F.n b.Ao)=_;rw[e.hj]
  have R:AZ 2 [xD,.n (D1 k m).1]=A (.p xl (r*2)):=by grind
  rw[xM];refine⟨xu,t,Bd B B ?_,xj.sub P,λa h=>(xJ a P).t ?_,λ_ _=>B⟩;.rw[w,MY.2.2.2.1];simp only[↓xG,↓Q,↓QT,Aic,Int.reduceEq,J,↓H xx,↓H yk,↓H S,↓H xS,↓x4.H B,↓H xC,↓H xn,↓H xk,↓H xo,↓H xp,↓H xB,↓H R,↓H xq]
  .have xA:=c.H.Dy (Y a h);rw[x,AY,Ad (λd=>xe (by grind))];exact(u.N xA).t (c.T a h)
 rw[Ad J];let⟨xT,xb⟩:=e.cQ N U J
 let⟨y,xz,v,I⟩:=uQ c.H c.ap e.E8 c.o (j:=b) (d:=g) xT
 let⟨yj,xt,xw,xv,u,xr,xR,xe⟩:=box y (.I 2 [.i .u8 0,.n 0])
 have xG:=J2 y xw xv;let⟨z,xC,xB,x⟩:=Ha xr (CV (Bm d b f) b g E).2.1
 have xi:=v.V u;have Z:Cn j z (CV (Bm d b f) b g E).1 t (Fo (λa=>q a\/a=o\/a=xg) y xt):=by rw[x];exact xi.Xa (.j ⟨xe,xR⟩) _
 have xV:∀a,q a->z.N a=V.N a:=λa h=>by have xA:=v.Dy (.i h);rw[x,AY,Ad (λd=>xe (by grind))];exact(u.N xA).t ((I a P).t (c.T a h))
 by_cases xK:(CV (Bm d b f) b g E).2.2=0
 .rw[Ad (by grind)];let⟨x0,xY,yi,xZ,xD,xl,xu,x1,x2,x3,xn,xo,xp,R,xq,xj,xJ⟩:=Z.Aw ((xb.PN b f).of (vw _ b g E)) (CV (Bm d b f) b g E).2.1
  have xk:z.AA o 1=A (.n xd):=by have yh:=v.Dy (c:=o) P;rw[AJ (f:=2) (c:=A8.c b) (by rw[x,AY,Ad P];exact(u.N yh).t ((I o P).t c.gq))];show A (F.n b.Ao)=_;rw[e.hj]
  have R:AZ 2 [xD,.n 0]=A (.p xl 0):=R;refine⟨xu,t,Bd B B ?_,xj.sub P,P,P⟩;rw[w,MY.2.2.2.1];simp only[↓xG,↓Q,↓QT,Aic,U,J,MY.2.2.1,↓H ym,↓H yl,↓H xz,↓H xC,xK,↓H xn,↓H xk,↓H xo,↓H xp,↓H xB,↓H R,↓H xq,MY.2.2.2.2]
 .rw[Af xK];refine⟨z,t,Bd B B ?_,Z.sub P,xV,P⟩;rw[w,MY.2.2.2.1];simp only[QY,MY.2.2.1,MY.2.2.2.2, *]
def Rs(e:C Ab)(c:Ab)(a:AH)(f:D):Prop:=(a.Ao= -1/\0<=a.Aw/\a.Aw<c.Ap)\/∃(b:D)(d:AD),a.Ao=(b:K)/\b<f/\c.Ay[b]? =A d/\0<=a.Aw/\a.Aw<C_ e d
structure Ib(b:C Ab)(c:Ab)(e:D)(a:AD):Prop where
 AX:(a.AT.l:K)=FA b a
 AT:∀d∈a.AT,Rs b c d e
 num:a.op=2->a.n=0\/a.n=1
 Cx:a.op=1->-1000000000<=a.n/\a.n<=1000000000
structure nm(c:C Ab)(a:Ab):Prop where
 Ap:1<=a.Ap/\a.Ap<=12
 Ay:a.Ay.l<=400
 A6:a.A6.l<=12/\(a.A6.l=0\/(a.A6.l:K)=a.Ap)
 Bs:a.Bs.l<=12
 Ao:∀(d:D) e,a.Ay[d]? =A e->Ib c a d e
 nx:∀b∈a.A6,Rs c a b a.Ay.l
 ex:∀b∈a.Bs,Rs c a b a.Ay.l
structure Bj(c:C Ab):Prop where
 AX:c.l<=60
 A4:∀(b:D) a,c[b]? =A a->nm c a
 Zo:∀(b:D) a,c[b]? =A a->CO c a.Bk=(b:K)
 DL:∃(b:D)(a:Ab),CO c G4=(b:K)/\c[b]? =A a/\a.A6.l=0
variable{c:Ab}
def Ab3{f:C _}{b:AH}{g:D}(a:LM f c b g=L):Rs f c b g:=by
 unfold LM BY at a;split at a;.rename_i h;simp only[Aie,Ain]at a;exact .i ⟨h,by omega,by omega⟩
 .simp only[Aie,Ain]at a
  let⟨j,d⟩:=a
  cases e:c.Ay[b.Ao.n]?with
  |none=>grind
  |some i=>rw[e]at d;simp only[Aie,Ain]at d;exact .j ⟨b.Ao.n,i,by omega,by omega,e,by omega,by omega⟩
def aK{d:C _}{b:Ab}{c:C _}(f:GZ d b c e=L):∀a∈c,Rs d b a e:=λa g=>Ab3 (AiP.1 f a g)
def kG{g:C _}{f:Ab}:∀{e:C _}{d:D},Ol g f e d=L->∀(a:D) b,e[a]? =A b->Py g f (d+a) b=L
 |[],_,_,a,b,h=>by grind
 |i::e,d,c,a,b,h=>by
  unfold Ol at c
  rw[Aie]at c
  cases a with
  |zero=>grind
  |succ a=>have:=kG c.2 a b (by grind);grind
def AbG{f:C Ab}{d:Ab}{g:AD}(c:Py f d e g=L):Ib f d e g:=by
 unfold Py at c;simp only[Aie,Ain]at c;let⟨⟨h,a⟩,i⟩:=c
 unfold HB at a;split at a;.grind
 .refine⟨h.s,aK i,λb=> ?_,λb=> ?_⟩;.rw[Ad (by omega),Af b]at a;simp only[Ajt,Ain]at a;grind
  .rw[Af b]at a;unfold BY at a;simp only[Aie,Ain]at a;grind
def lW:∀{e:C _}{c:K},0<=c->Ox e c=L->∀a∈e,(a.Ay.l:K)<=400/\a.Ap<=12/\a.A6.l<=12/\a.Bs.l<=12
 |[],_,_,_,a,b=>by grind
 |j::i,c,h,d,a,b=>by
  unfold Ox Rk at d;simp only[Aie,Akn,AjB,Aj9]at d;let⟨g,f⟩:=d
  rcases Ait.1 b with rfl|b;.grind
  .exact lW (by omega) f a b
def kJ{f:C _}:∀{e:C Ab}{d:D},L0 f e d=L->∀(a:D) b,e[a]? =A b->CO f b.Bk=(d+a:D)
 |[],_,_,a,b,g=>by grind
 |h::e,d,c,a,b,g=>by
  unfold L0 at c
  rw[Aie,Ain]at c
  cases a with
  |zero=>grind
  |succ a=>have:=kJ c.2 a b (by grind);omega
def GU{a:C _}(c:DR a=0):Bj a:=by
 let⟨u,v,r,s,t⟩:=kg c
 unfold DR at c;by_cases o:(60:K)<a.l;.grind
 rw[Ad o]at c;by_cases d:Ox a 0=Ac;.grind
 rw[Ad d]at c;by_cases e:(a.all λb=>Lc a b)=Ac;.grind
 rw[Ad e]at c;by_cases i:L0 a a 0=Ac;.grind
 have d:Ox a 0=L:=by grind
 have e:(a.all λb=>Lc a b)=L:=by grind
 have i:L0 a a 0=L:=by grind
 refine⟨by omega,λh b f=> ?_,λh b f=> ?_,⟨u,v,r,s,t⟩⟩
 .have j:=Ail f;let⟨F,x,y,z⟩:=lW Om d b j
  have g:=AiP.1 e b j;unfold Lc at g;simp only[Aie,Ajt,Ain]at g;let⟨⟨⟨_,k⟩,E⟩,l,m,n⟩:=g
  refine⟨⟨k,x⟩,by omega,⟨y,?_⟩,z,λq w p=> ?_,aK m,aK n⟩;.grind
  .have:=kG l q w p;rw[Aix]at this;exact AbG this
 .have:=kJ i h b f;omega
def Ib.call{b:C Ab}{h:Ab}{a:AD}(g:Ib b h k a)(j:a.op=8\/a.op=9):∃(e:D)(c:Ab),CO b a.Bk=e/\b[e]? =A c/\a.AT.l=c.Ap/\(0<c.A6.l↔a.op=9)/\C_ b a=c.Bs.l:=by
 have d:=g.AX
 unfold FA at d
 rw[Ad (by omega),Ad (by omega),Ad (by omega),Ad (by omega),Af j]at d
 unfold KL at d
 cases f:b[(CO b a.Bk).n]?with
 |none=>grind
 |some c=>
  rw[f]at d;simp only[]at d;by_cases i:0<=CO b a.Bk/\(Au (0<c.A6.l)=Au (a.op=9))
  .rw[Af i]at d;refine⟨(CO b a.Bk).n,c,by omega,f,d,?_,?_⟩;.grind
   .unfold C_ Qo;grind
  grind
def Ib.F_{f:C _}{a:AD}(b:Ib f c e a)(g:a.op=1\/a.op=2\/a.op=3\/a.op=10\/a.op=13\/a.op=14):a.AT.l=1:=by have d:=b.AX;unfold FA at d;omega
def Ib.KU{f:C _}{a:AD}(b:Ib f c e a)(g:a.op=5\/a.op=6\/a.op=7\/a.op=12):a.AT.l=2:=by have d:=b.AX;unfold FA at d;omega
def Ib.Xt{f:C _}{a:AD}(b:Ib f c e a)(g:a.op=11):a.AT.l=3:=by have d:=b.AX;unfold FA at d;omega
def Ib.SS{f:C _}{a:AD}(b:Ib f c e a)(g:a.op=4):a.AT.l=DZ a.Bk/\0<DZ a.Bk:=by have d:=b.AX;unfold FA at d;omega
def AbY(a:B0):DZ a<=2:=by unfold DZ;omega
def Ib.op{f:C _}{a:AD}(b:Ib f c e a):1<=a.op/\a.op<=14:=by
 have d:=b.AX;by_cases g:1<=a.op/\a.op<=14;.grind
 .unfold FA at d;omega
def Ib.some{c:C _}(d:Bj c){f:Ab}{m:D}{a:AD}(b:Ib c f m a):1<=a.AT.l/\a.AT.l<=12:=by
 let⟨n,o⟩:=b.op
 by_cases k:a.op=8\/a.op=9
 .let⟨e,g,_,l,p,_⟩:=b.call k
  have:=(d.A4 e g l).Ap;omega
 by_cases j:a.op=4;.have:=b.SS j;have:=AbY a.Bk;omega
 by_cases h:a.op=11;.have:=b.Xt h;omega
 by_cases i:a.op=5\/a.op=6\/a.op=7\/a.op=12;.have:=b.KU i;omega
 .have:=b.F_ (by omega);omega
def SK{a:C Ab}(c:Bj a)(b:AD):0<=C_ a b/\C_ a b<=12:=by
 unfold C_;split;.omega
 .split
  .split
   .unfold Qo;split;.rename_i d e;have:=(c.A4 _ d e).Bs;omega
    omega
   omega
  omega
def aW{c:C _}(a:Bj c){b:Ab}(f:c[e]? =A b):Te c b:=by have d:=a.A4 e b f;have:=a.AX;exact⟨by omega,by have:=d.Ap;omega,by have:=d.Ay;omega,λg h=>by have:=SK a g;omega⟩
def bx(a b:Ak):Ie 1 (.b a) (.b b)=A (a==b):=by cases a<;>cases b<;>rfl
def rz(a b:BC):F5 Ac [0,1,1] [.S (BC.c a),.S (BC.c b)]=A (.b (Au (a=b))):=by
 have:G2 [0,1,1] (BC.c a) (BC.c b)=A (Au (a=b)):=by
  show KD (Ie 0 (.n a.As) (.n b.As)) (KD (Ie 1 (.b a.next) (.b b.next)) (KD (Ie 1 (.b a.is) (.b b.is)) (A L)))=_;rw[bz,bx,bx,Vi,Vi,Vi];congr 1;let⟨c,d,e⟩:=a
  let⟨f,g,h⟩:=b
  by_cases i:c=f<;>cases d<;>cases g<;>cases e<;>cases h<;>simp[]
 rw[hp,this];rfl
def Cn.OD{c:CW}{f:G}{d:Ah}{n:D->Aa}{h:Aa->Prop}{e:Aa->Bz}{b:Ly}(q:EU e f c.l c.es c.k c.x d b)(u:b.pc=n)(s:∀i,h i->Lv f i/\e i=.DK){r:AP}{o:Bz}(t:d.T[a]? =A r)(m:o.of a)(j:Fb e f g o)(p:Dt e g a (b.pc a) l (b.pv a) (b.ov a) (b.fv a) (b.gv a) (b.og a) (b.gg a)):Cn c g (d.AM a l) n h/\BD h f g:=
 have k:=j.FQ (by intro d;subst d;exact m) s
 ⟨⟨e,b,q.OD t m j p,u,k.1⟩,k.2⟩
variable{b:AP}{o:Ah}
def im{y:CW}{j:G}{r:D->Aa}{l:Aa->Prop}(h:Cn y j o r l){f:D}(k:o.T[e]? =A b)(Q:f<b.Ap.l)(a:M):∃p,W9 (Ar 168) [.p (r e) 0,.n f,.S (M.c a)] j=A (.b (ER b f a).2,p)/\Cn y p (o.AM e (ER b f a).1) r l/\BD l j p:=by
 let⟨Y,E,U,T,g,I,W,X⟩:=box j (.I 2 (M.c a))
 have v:=h.ext g;have w:=v;obtain⟨xb,xe,z,rfl,P⟩:=v;have u:=z.Bw e b k;have xc:=B2 I;have Z:=AJ u.N 4;let⟨s,R⟩:=Bo Q
 let⟨S,N,V,_,xa,xd,F,H⟩:=u.ab R a
 have J:(b.Ap[f]?).g AK=s:=by grind
 have d:=Nq a;have i:=Nq s;unfold ER;rw[J];by_cases m:a.Ai=0;.rw[Af (.i m),Ov k];rw[Be m]at d;refine⟨E,Bd B B ?_,w,λq c=>g.N (h.Dy c)⟩;rw[Y5.1];simp only[QY,d.H B,QB, *]
 .rw[Ba m]at d;by_cases n:s.Ai=0;.rw[Ad (by grind)];rw[Be n]at i;have x:=Cn.OD z B P k (o:=.Ap e) B H F;refine⟨N,Bd B B ?_,x.1,λq c=>(x.2 q c).t (g.N (h.Dy c))⟩;rw[Y5.1];simp only[QY,d.H B,QB,i.H B,Y5.2, *]
  .rw[Af (.j n),Ov k];rw[Ba n]at i;refine⟨E,Bd B B ?_,w,λq c=>g.N (h.Dy c)⟩;rw[Y5.1];simp only[QY,d.H B,QB,i.H B, *]
def tE{x:CW}{q:G}{W:D->Aa}{w:Aa->Prop}(s:Cn x q o W w){g b:D}{k f:AP}(T:o.T[g]? =A k)(e:k.AN=a)(xm:k.Ao=d)(i:o.T[a]? =A f){U:C BC}{V:C M}(xj:f.A5[d]? =A U)(xJ:f.AB[d]? =A V)(xH:b<U.l)(xI:b<V.l)(l:M)(c:BC):∃S,W9 (Ar 169) [.p x.x 0,.p (W g) 0,.n b,.S (M.c l),.S (BC.c c)] q=A (.AC [.b (CE f d b l c).2.1,.n (CE f d b l c).2.2],S)/\Cn x S (o.AM a (CE f d b l c).1) W w/\BD w q S:=by
 let⟨X,E,xK,xF,xr,xz,xQ,ya⟩:=box q (.I 2 (M.c l))
 let⟨xn,h,xL,xG,xb,xA,x9,yb⟩:=box E (.I 3 (BC.c c))
 have xZ:=K2 q l xK xF;have x0:∀(xd:F->G->R),bl (.p E.next 0) (E.V (.I (BK (F.I (.S (BC.c c)))) (F.I (.S (BC.c c))))) xd=xd (.p xn 0) h:=Em E (.I 3 (BC.c c)) xL xG;have r:=xr.AQ xb;have xc:=s.ext r;have xt:=s.V r;obtain⟨xV,n,u,rfl,xC⟩:=xt;have xs:Fo w q h X:=by grind
 have xa:=u.Bw g k T;have Y:=u.Bw a f i;let⟨x5,xP,xW⟩:=u.Lk i
 have xY:h.AA x.x 2=A n.cv:=AJ u.N 2;have xv:h.AA (n.pc g) 1=A (.n a):=by rw[AJ xa.N];show A (F.n k.AN)=_;rw[e]
 have xw:h.AA (n.pc g) 2=A (.n d):=by rw[AJ xa.N];show A (F.n k.Ao)=_;rw[xm]
 have xu:h.AA (n.pc a) 8=A (n.gv a):=AJ Y.N 8;let⟨p,xk⟩:=Bo xH
 let⟨x2,y,xi,xN,xS,xO,xT,xo,yg,xp,xe⟩:=Y.Aed xj xk c
 have xU:h.AU xn 0 3=A (BC.c c):=B2 xA;have P:=rz p c;have xX:BT f d b=p:=by unfold BT;rw[xj];show(U[b]?).g E3=p;rw[xk];rfl
 unfold CE;rw[xX];by_cases z:p=c;.rw[Af z,Ov i];rw[Be z]at P;refine⟨h,Bd B B ?_,xc,λa e=>r.N (s.Dy e)⟩;rw[r169];simp only[↓xZ,↓x0,↓Q,↓H xY,↓H xv,↓H xP,↓H xW,↓H xu,↓H xw,↓H xN,↓H xS,↓H xO,↓H xT,↓H xU,↓H P]
 .rw[Ad z];rw[Ba z]at P;by_cases N:p.is=L
  .rw[Af N,Ov i];have xy:Bt 2 [.p y (b*3)]=A (.p y (b*3+2)):=by rw[F6]
   rw[N]at xo;refine⟨h,Bd B B ?_,xc,λa e=>r.N (s.Dy e)⟩;rw[r169];simp only[QY, *]
  .rw[Ad N];have xx:p.is=Ac:=by grind
   have xy:Bt 2 [.p y (b*3)]=A (.p y (b*3+2)):=by rw[F6]
   rw[xx]at xo;have J:=u.OD i (t:=.BS a d) B xe xp;have I:=xe.FQ (by grind) xC;have Z:=J.Bw a _ (JO i);have x1:=Z.N;let⟨yh,xM⟩:=Bo xI
   let⟨x3,x4,xB,x7,yc,x8,yd,yf,xq,xf⟩:=Z.Q9 (v:=V) (a:=d) (b:=b) xJ xM l
   have xh:=J.OD (JO i) (t:=.Aw a d) B xf xq;rw[MD]at xh;have xg:=xf.FQ (by grind) I.1;obtain⟨v,xD,xE⟩:∃v,(o.AM a {f with A5:=C5 f.A5 d b c}).T[g]? =A v/\v.Ao=k.Ao:=by
    by_cases xl:g=a;.subst xl;rw[T]at i;cases i;exact⟨_,JO T,B⟩
    .exact⟨k,by show(o.T.set _ _)[g]? =_;rw[AiU (λxR=>xl xR.s)];grind,B⟩
   have x6:xi.AA (n.pc g) 2=A (.n d):=by rw[AJ (J.Bw g v xD).N];show A (F.n v.Ao)=_;rw[xE,xm]
   have ye:xi.AU X 0 2=A (M.c l):=B2 ((I.2 X xs).t ((xb.N xQ).t xz));refine⟨xB,Bd B B ?_,⟨xV,n,xh,B,λa e=>xg.1 a (.i e)⟩,λa e=>(xg.2 a (.i e)).t ((I.2 a (.i e)).t (r.N (s.Dy e)))⟩;rw[r169];simp only[QY,AcD, *]
structure DU(e:C Ab)(f:D)(a:Ab)(b:AP):Prop where
 ha:b.A4=(f:K)
 hb:e[f]? =A a
 Ap:(b.Ap.l:K)=a.Ap
 AB:b.AB.l=a.Ay.l
 AI:b.AI.l=a.Ay.l
 A5:b.A5.l=a.Ay.l
 Aw:∀(c:D) d h,a.Ay[c]? =A d->b.AB[c]? =A h->(h.l:K)=C_ e d
 BS:∀(c:D) d g,a.Ay[c]? =A d->b.A5[c]? =A g->(g.l:K)=C_ e d
def DU.BB{d:C _}{b:Ab}{c:AP}(a:DU d e b c):Ch d c=b:=by unfold Ch;rw[a.ha,Aif,a.hb];rfl
structure D4(a b:AP):Prop where
 A4:b.A4=a.A4
 AN:b.AN=a.AN
 Ao:b.Ao=a.Ao
 As:b.As=a.As
 Ap:b.Ap.l=a.Ap.l
 AB:b.AB.m List.length=a.AB.m List.length
 AI:b.AI.l=a.AI.l
 A5:b.A5.m List.length=a.A5.m List.length
def D4.refl(a:AP):D4 a a:=⟨B,B,B,B,B,B,B,B⟩
def D4.AQ{c d e:AP}(a:D4 c d)(b:D4 d e):D4 c e:=⟨b.A4.t a.A4,b.AN.t a.AN,b.Ao.t a.Ao,b.As.t a.As,b.Ap.t a.Ap,b.AB.t a.AB,b.AI.t a.AI,b.A5.t a.A5⟩
def Ws{f:Type}{e c:C (C f)}(g:c.m List.length=e.m List.length){b:C f}(h:c[a]? =A b):∃d,e[a]? =A d/\b.l=d.l:=by
 have:(c.m List.length)[a]? =A b.l:=by grind
 grind
def S0{c:Type}(b:C (C c))(a e:D)(f:c):(C5 b a e f).m List.length=b.m List.length:=by
 unfold C5;split
 .rename_i i h;refine Ajc λd=> ?_;rw[AiL,AiL];by_cases g:a=d;.grind
  .grind
 grind
def DU.BG{n:C Ab}{j:D}{k:Ab}{m:AP}(a:DU n j k l)(b:D4 l m):DU n j k m where
 ha:=b.A4.t a.ha
 hb:=a.hb
 Ap:=by rw[b.Ap];exact a.Ap
 AB:=by have:=Aij List.length b.AB;rw[Aiw,Aiw]at this;exact this.t a.AB
 AI:=b.AI.t a.AI
 A5:=by have:=Aij List.length b.A5;rw[Aiw,Aiw]at this;exact this.t a.A5
 Aw:=λg h p e c=>by
  let⟨i,f,d⟩:=Ws b.AB c
  rw[d];exact a.Aw g h i e f
 BS:=λg h o e c=>by
  let⟨i,f,d⟩:=Ws b.A5 c
  rw[d];exact a.BS g h i e f
variable{q:D}
def DU.Dv{k:C Ab}{m:D}(a:DU k m c b){d:AH}(n:Rs k c d q):∃s,GX b d=A s:=by
 unfold GX;rcases n with⟨e,f,g⟩|⟨j,r,e,f,g,o,t⟩;.rw[Af (by omega),Af f];have:=a.Ap;exact Bo (by omega)
 .rw[Ad (by omega),Af o];let⟨p,h⟩:=Bo (b:=b.AB) (a:=j) (by rw[a.AB];grind)
  have:=a.Aw j r p g h;rw[e,Aif,h];exact Bo (by omega)
def DU.Dj{e:C _}{d:Ab}{a:AP}(g:DU e h d a){c:C AH}{l:D}(i:∀b∈c,Rs e d b l):KW a c=A (c.m (A9 a)):=by
 induction c with
 |nil=>rfl
 |cons b f k=>
  let⟨m,j⟩:=g.Dv (i b (Ai0 ..))
  unfold KW;rw[j,k P];show A (m::f.m (A9 a))=A (A9 a b::f.m (A9 a));unfold A9;grind
def PQ{a:AP}{b:AH}{c:M}(d:GX a b=A c):A9 a b=c:=by unfold A9;grind
structure Gz(g:C Ab)(h:Ah)(i:D)(b:AP)(c f:D)(d:AP)(e:Ab)(a:AD):Prop where
 AN:b.AN=(c:K)
 Ao:b.Ao=(f:K)
 lt:c<i
 Cp:h.T[c]? =A d
 FM:∃j:D,DU g j e d
 hn:e.Ay[f]? =A a
 op:a.op=8\/a.op=9
 CO:CO g a.Bk=b.A4
structure L9(d:Ah)(e:D)(a:AP)(c:D)(b:AP):Prop where
 next:a.next=(c:K)
 lt:e<c
 Cp:d.T[c]? =A b
 A4:b.A4=a.A4
 AN:b.AN=a.AN
 Ao:b.Ao=a.Ao
 As:b.As=a.As+1
structure Dk(f:C Ab)(c:Ah):Prop where
 AX:c.T.l<=400
 Bw:∀(b:D) a,c.T[b]? =A a->∃d e,DU f d e a
 up:∀(b:D) a,c.T[b]? =A a->a.AN= -1\/∃k h d e j,Gz f c b a k h d e j
 next:∀(b:D) a,c.T[b]? =A a->a.next= -1\/∃i g,L9 c b a i g
 As:∀(b:D) a,c.T[b]? =A a->0<=a.As/\a.As<=(b:K)
 DL:∀(b:D) a,c.T[b]? =A a->a.AN= -1->b=0
def Dk.AM{u:C _}{n:Ah}(i:Dk u n){m:AP}(h:n.T[q]? =A l)(f:D4 l m)(z:m.next=l.next):Dk u (n.AM q m)where
 AX:=by show(n.T.set q m).l<=400;rw[Aiv];exact i.AX
 Bw:=λe g d=>by
  rcases IM h d with⟨rfl,rfl⟩|⟨_,d⟩;.let⟨p,k,v⟩:=i.Bw e l h;exact⟨p,k,v.BG f⟩
  .exact i.Bw e g d
 DL:=λe g d c=>by
  rcases IM h d with⟨rfl,rfl⟩|⟨_,d⟩;.exact i.DL e l h (f.AN.s.t c)
  .exact i.DL e g d c
 up:=λe g d=>by
  have t:∀j:AP,(j.AN= -1\/∃o r p k s,Gz u n e j o r p k s)->(j.AN= -1\/∃o r p k s,Gz u (n.AM q m) e j o r p k s):=by
   rintro j (c|⟨o,r,p,k,s,a⟩)
   .grind
   .right;by_cases x:o=q
    .subst x;have y:=AiI (a.Cp.s.t h);subst y;let⟨c,v⟩:=a.FM
     exact⟨o,r,m,k,s,a.AN,a.Ao,a.lt,JO h,⟨c,v.BG f⟩,a.hn,a.op,a.CO⟩
    .exact⟨o,r,p,k,s,a.AN,a.Ao,a.lt,by show(n.T.set q m)[o]? =_;rw[AiU Om];exact a.Cp,a.FM,a.hn,a.op,a.CO⟩
  rcases IM h d with⟨rfl,rfl⟩|⟨_,d⟩
  .rcases(t l (i.up e l h))with c|⟨o,r,p,k,s,a⟩;.exact .i (f.AN.t c)
   .exact .j ⟨o,r,p,k,s,f.AN.t a.AN,f.Ao.t a.Ao,a.lt,a.Cp,a.FM,a.hn,a.op,a.CO.t f.A4.s⟩
  .exact t g (i.up e g d)
 next:=λe g d=>by
  have t:∀j:AP,(j.next= -1\/∃c g,L9 n e j c g)->(j.next= -1\/∃c g,L9 (n.AM q m) e j c g):=by
   rintro j (c|⟨c,w,b⟩)
   .grind
   .right;by_cases x:c=q;.subst x;have y:=AiI (b.Cp.s.t h);subst y;exact⟨c,m,b.next,b.lt,JO h,f.A4.t b.A4,f.AN.t b.AN,f.Ao.t b.Ao,f.As.t b.As⟩
    .exact⟨c,w,b.next,b.lt,by show(n.T.set q m)[c]? =_;rw[AiU Om];exact b.Cp,b.A4,b.AN,b.Ao,b.As⟩
  rcases IM h d with⟨rfl,rfl⟩|⟨_,d⟩
  .rcases t l (i.next e l h)with c|⟨c,w,b⟩;.grind
   .exact .j ⟨c,w,z.t b.next,b.lt,b.Cp,b.A4.t f.A4.s,b.AN.t f.AN.s,b.Ao.t f.Ao.s,by rw[f.As];exact b.As⟩
  .exact t g (i.next e g d)
 As:=λe g d=>by
  rcases IM h d with⟨rfl,rfl⟩|⟨_,d⟩;.rw[f.As];exact i.As e l h
  .exact i.As e g d
def iV(a:AP)(b:D)(c:M):D4 a (ER a b c).1/\(ER a b c).1.next=a.next:=by
 unfold ER;split;.exact⟨D4.refl a,B⟩
 .exact⟨⟨B,B,B,B,Aiv,B,B,B⟩,B⟩
def Ns(c:AH->M)(d:C AH)(a:AP):∀b,D4 a (C2 c d a b).1/\(C2 c d a b).1.next=a.next
 |0=>⟨D4.refl a,B⟩
 |b+1=>by
  have e:=Ns c d a b;unfold C2;split;.rename_i f _;have:=iV (C2 c d a b).1 b (c f);exact⟨e.1.AQ this.1,this.2.t e.2⟩
  omega
def aU(a:AP)(c d:D)(e:M)(b:BC):D4 a (CE a c d e b).1/\(CE a c d e b).1.next=a.next:=by
 unfold CE;split;.exact⟨D4.refl a,B⟩
 .split;.exact⟨D4.refl a,B⟩
  .exact⟨⟨B,B,B,B,B,S0 _ _ _ _,B,S0 _ _ _ _⟩,B⟩
def Ty(e:D->M)(d:D)(c:BC)(a:AP):∀b,D4 a (B7 e d c a b).1/\(B7 e d c a b).1.next=a.next
 |0=>⟨D4.refl a,B⟩
 |b+1=>by
  have f:=Ty e d c a b;unfold B7;split;.grind
  .split;.grind
   .have:=aU (B7 e d c a b).1 d b (e b) c;exact⟨f.1.AQ this.1,this.2.t f.2⟩
def aO{f:D->M}{d:D}{c:BC}{b:AP}{e:D}(g:(B7 f d c b e).2.2≠0):∀a,e<=a->B7 f d c b a=B7 f d c b e
 |0,h=>by grind
 |a+1,h=>by
  by_cases i:e=a+1;.grind
  .have j:=aO g a (by omega);rw[show B7 _ d c b _=_ from B];show(if(B7 _ d c b a).2.2≠0\/(f a).Ai=0 then B7 _ d c b a else _)=_;grind
def MB{e:Type}(a c:Ak)(b:F->Aj e):((An (AO Ac (.b a)) (A (.b c)) (A Ax)).b λd=>(C8 [.b a,.b L,d]).b b)=b (.b (a||c)):=by cases a<;>rfl
theorem aT(b:D->M)(d:D)(c:BC)(e:AP)(a:D):B7 b d c e (a+1)=
 if(B7 b d c e a).2.2≠0\/(b a).Ai=0 then B7 b d c e a
 else if(CE (B7 b d c e a).1 d a (b a) c).2.2≠0 then((B7 b d c e a).1,(B7 b d c e a).2.1,(CE (B7 b d c e a).1 d a (b a) c).2.2)
 else((CE (B7 b d c e a).1 d a (b a) c).1,(B7 b d c e a).2.1||(CE (B7 b d c e a).1 d a (b a) c).2.1,0):=rfl
def Gz.Su{j:C Ab}(p:Bj j){r:Ah}{v x:D}{n e:AP}{m:Ab}{c:AD}(b:Gz j r v n x a e m c){o:D}{f:Ab}(k:DU j o f n):∃g h,e.A5[a]? =A g/\e.AB[a]? =A h/\g.l=f.Bs.l/\h.l=f.Bs.l/\c.AT.l=f.Ap/\(0<f.A6.l↔c.op=9):=by
 let⟨w,d⟩:=b.FM
 let⟨q,y,z,s,E,F,G⟩:=((p.A4 w m d.hb).Ao a c b.hn).call b.op
 have I:=b.CO;have H:=k.ha;have:q=o:=by omega
 subst this;have:=AiI (s.s.t k.hb);subst this;have J:=(Aid.1 b.hn).1;let⟨g,t⟩:=Bo (b:=e.A5) (a:=a) (by rw[d.A5];grind)
 let⟨h,u⟩:=Bo (b:=e.AB) (a:=a) (by rw[d.AB];grind)
 have M:=d.BS a c g b.hn t;have N:=d.Aw a c h b.hn u;grind
def D4.uT{a:AP}(g:D4 a b){c:D}{d:C BC}(f:a.A5[c]? =A d):∃e,b.A5[c]? =A e/\e.l=d.l:=by
 let⟨j,i,h⟩:=Ws g.A5.s f
 grind
def D4.WO{a:AP}(g:D4 a b){c:D}{d:C M}(f:a.AB[c]? =A d):∃e,b.AB[c]? =A e/\e.l=d.l:=by
 let⟨j,i,h⟩:=Ws g.AB.s f
 grind
def SU{b:Ah}{c:D}{e d:AP}(g:b.T[a]? =A e)(f:c≠a):(b.AM c d).T[a]? =A e:=by show(b.T.set c d)[a]? =_;grind
def fz{e:CW}(v:Bj e.l){h:Ah}{n o:D}{f:AP}{w:Ab}{I:AD}(x:h.T[n]? =A l)(g:Gz e.l h n l o d f w I){H:D}{q:Ab}(s:DU e.l H q l)(c:D->M)(b:BC)(N:a<q.Bs.l){m:G}{p:D->Aa}{j:Aa->Prop}(t:Cn e m (h.AM o (B7 c d b f a).1) p j):∃i,W9 (Ar 169) [.p e.x 0,.p (p n) 0,.n a,.S (M.c (c a)),.S (BC.c b)] m=A (.AC [.b (CE (B7 c d b f a).1 d a (c a) b).2.1,.n (CE (B7 c d b f a).1 d a (c a) b).2.2],i)/\Cn e i (h.AM o (CE (B7 c d b f a).1 d a (c a) b).1) p j/\BD j m i:=by
 let⟨S,V,y,E,Q,R,_,_⟩:=g.Su v s
 have r:=(Ty c d b f a).1;let⟨T,z,U⟩:=r.uT y
 let⟨W,F,X⟩:=r.WO E
 have Y:=g.lt;let⟨i,P,u,J⟩:=tE t (SU x (by omega)) g.AN g.Ao (JO g.Cp) z F (b:=a) (by omega) (by omega) (c a) b
 rw[MD]at u;grind
variable{xs:Ab}
def tm{c:CW}(xb:Bj c.l){v:G}{t:D->Aa}{q:Aa->Prop}(xn:Cn c v o t q){p x f:D}{xM:AD}(T:o.T[p]? =A b)(z:Gz c.l o p b x f l xs xM){U:D}{m:Ab}(u:DU c.l U m b):∃d,W9 (Ar 128) [.p c.x 0,.p (t p) 0] v=A (.AC [.b (Et c.l o p).2.1,.n (Et c.l o p).2.2],d)/\Cn c d (Et c.l o p).1 t q/\BD q v d:=by
 have xy:Et c.l o p=(o.AM x (B7 (DN c.l b) f ⟨b.As,Ac,L⟩ l m.Bs.l).1,(B7 (DN c.l b) f ⟨b.As,Ac,L⟩ l m.Bs.l).2):=by unfold Et;simp only[DM T,z.AN,z.Ao,Aif,DM z.Cp,u.BB]
 rw[xy];have xW:=(xb.A4 U m u.hb).Bs;have xD:=(xb.A4 U m u.hb).ex;have x0:=z.lt;have xL:=Of (f:=m.Bs.l) (d:=λe _ d=>jj W9 128 2 [.n m.Bs.l,Z AH.c m.Bs,.p c.x 0,.p (t p) 0,.n e,.b (B7 (DN c.l b) f ⟨b.As,Ac,L⟩ l e).2.1] d)
  (e:=λe _ d=>(B7 (DN c.l b) f ⟨b.As,Ac,L⟩ l e).2.2=0/\Cn c d (o.AM x (B7 (DN c.l b) f ⟨b.As,Ac,L⟩ l e).1) t q/\BD q v d)
  (g:=λxP=>∃d,xP=A (.AC [.b (B7 (DN c.l b) f ⟨b.As,Ac,L⟩ l m.Bs.l).2.1,.n (B7 (DN c.l b) f ⟨b.As,Ac,L⟩ l m.Bs.l).2.2],d)/\Cn c d (o.AM x (B7 (DN c.l b) f ⟨b.As,Ac,L⟩ l m.Bs.l).1) t q/\BD q v d)
  (λe _ d xd Y=>by
   let⟨xa,y,xh⟩:=Y
   let⟨E,R⟩:=Bo xd
   have xv:=Dx xd;let⟨w,xl⟩:=u.Dv (xD E (Ail R))
   have xx:DN c.l b e=w:=by unfold DN;rw[u.BB,R];exact PQ xl
   let⟨xN,xB,xI,xE,xe,xz,xY,x1⟩:=box d (.I 2 (AH.c E))
   let⟨x8,x5⟩:=F0 d (b:=2) [(.n 0),(.n 0)] (c:=AH.c E) xI xE B B
   have x3:xB.AU xN 0 2=A (AH.c E):=B2 xz;have xp:=y.ext xe;let⟨xQ,xm,S,xH,xC⟩:=xp
   have V:=S.Bw p b (SU T (by omega));rw[xH]at V;let⟨xj,xX,xf⟩:=Np V E xl
   let⟨xO,N,xJ,xF,xg,xA,xZ,x2⟩:=box xj (.I 2 (M.c w))
   let⟨x9,x6⟩:=F0 xj (b:=2) [(.i .u8 0),(.n 0)] (c:=M.c w) xJ xF B B
   have x4:N.AU xO 0 2=A (M.c w):=B2 xA;have J:=Nq w;have W:=xe.AQ (xf.AQ xg);have xR:BD q d N:=λx xG=>W.N (y.Dy xG);have r:=aT (DN c.l b) f ⟨b.As,Ac,L⟩ l e;by_cases xi:w.Ai=0
   .left;rw[Be xi]at J;rw[Af P]at r;refine⟨(),N,?_,?_⟩;.show jj W9 128 2 _ _=jj W9 128 2 _ _;rw[r,LQ.2.2.1];simp only[QY,LQ.2.2.2.1,H (Kd R),J.H B,QB,LQ.2.2.2.2.1,H (BF (a:=e) (by omega)), *]
    .show(B7 _ _ _ _ (e+1)).2.2=0/\Cn c N (o.AM x (B7 _ _ _ _ (e+1)).1) t q/\_;rw[r];exact⟨xa,y.ext W,P⟩
   .rw[Ba xi]at J;rw[Ad (by grind)]at r;have xq:=y.ext W;let⟨xk,xK,X,xS⟩:=fz xb T z u (DN c.l b) ⟨b.As,Ac,L⟩ xd xq
    have xU:N.AA (t p) 3=A (.n b.As):=AJ (V.ext (xf.AQ xg)).N 3;have xV:BE [(.n 0),(.b Ac),(.b Ac)] [(0,1),(2,1)] [.n b.As,.b L]=A (.S (BC.c ⟨b.As,Ac,L⟩)):=B;rw[xx]at xK X r;by_cases xc:(CE (B7 (DN c.l b) f ⟨b.As,Ac,L⟩ l e).1 f e w ⟨b.As,Ac,L⟩).2.2=0
    .left;rw[Ad (by grind)]at r;refine⟨(),xk,?_,?_⟩;.show jj W9 128 2 _ _=jj W9 128 2 _ _;rw[r,LQ.2.2.1];simp only[QY,MB,xv,LQ.2.2.2.1,H (Kd R),J.H B,QB,LQ.2.2.2.2.2.1,xc,LQ.2.2.2.2.2.2,LQ.2.2.2.2.1,H (BF (a:=e) (by omega)),ZR, *]
     grind
    .right;rw[Af xc]at r;have xu:=aO (f:=DN c.l b) (d:=f) (c:=⟨b.As,Ac,L⟩) (b:=l) (e:=e+1) (by grind) m.Bs.l (by omega);rw[xu,r];have xt:(CE (B7 (DN c.l b) f ⟨b.As,Ac,L⟩ l e).1 f e w ⟨b.As,Ac,L⟩).1=(B7 (DN c.l b) f ⟨b.As,Ac,L⟩ l e).1:=by unfold CE at xc⊢;grind
     rw[xt]at X;refine⟨xk,?_,X,P⟩;show jj W9 128 2 _ _=_;rw[LQ.2.2.1];simp only[QY,LQ.2.2.2.1,H (Kd R),J.H B,QB,LQ.2.2.2.2.2.1, *])
  (λ_ d Y=>by
   let⟨xa,y,xh⟩:=Y
   refine⟨d,?_,y,xh⟩;show jj W9 128 2 _ _=_;rw[LQ.2.2.1,xa];simp only[↓Q,↓QT,Aic,(Dz m.Bs.l),LQ.2.1])
  (b:=()) (a:=v) ⟨B,by show Cn c v (o.AM x l) t q;rw[Ov z.Cp];grind,P⟩
 let⟨d,xw,xo,xr⟩:=xL
 obtain⟨xQ,xm,S,rfl,xC⟩:=xn;have x7:=S.N;have xT:v.AA (xm.pc p) 0=A (.n U):=by rw[AJ (S.Bw p b T).N];show A (F.n b.A4)=_;rw[u.ha]
 refine⟨d,Bd B B ?_,xo,xr⟩;rw[LQ.1];simp only[QY,H (Da u.hb), *];exact xw
def ox{a:AP}{c:D}{e:M}{b:BC}(f:(CE a c d e b).2.2≠0):(CE a c d e b).1=a:=by unfold CE at f⊢;grind
def tF{r:CW}(xa:Bj r.l){u:G}{x:Ah}{E:D->Aa}{y:Aa->Prop}(xf:Cn r u x E y){v:D}{xJ:AD}(W:x.T[v]? =A b)(t:Gz r.l x v b q d l xs xJ){xk:D}{z:Ab}(Y:DU r.l xk z b)(c:M)(xT:c.Ai≠0):∃e,W9 (Ar 170) [.p r.x 0,.p (E v) 0,.S (M.c c)] u=A (.AC [.b (HU x v c).2.1,.n (HU x v c).2.2],e)/\Cn r e (HU x v c).1 E y/\BD y u e:=by
 let⟨xW,xI,xS,xB,xX,xG,_,_⟩:=t.Su xa Y
 unfold HU;simp only[DM W,t.AN,t.Ao,Aif,DM t.Cp,Aiz, *];have xR:=(xa.A4 xk z Y.hb).Bs;have xY:=t.lt;let⟨xd,m,xE,xz,xe,xx,xV,xZ⟩:=box u (.I 2 (M.c c))
 have x4:=K2 u c xE xz;have xo:=xf.V xe;have xm:Fo y u m xd:=by grind
 have xF:=Of (f:=z.Bs.l) (d:=λp _ e=>jj W9 170 2 [.n z.Bs.l,.p r.x 0,.p xd 0,.p (E v) 0,.n p,.b (B7 (λ_=>c) d ⟨b.As,L,L⟩ l p).2.1] e)
  (e:=λp _ e=>(B7 (λ_=>c) d ⟨b.As,L,L⟩ l p).2.2=0/\Cn r e (x.AM q (B7 (λ_=>c) d ⟨b.As,L,L⟩ l p).1) E (Fo y u m)/\BD (Fo y u m) m e)
  (g:=λxK=>∃e,xK=A (.AC [.b (B7 (λ_=>c) d ⟨b.As,L,L⟩ l z.Bs.l).2.1,.n (B7 (λ_=>c) d ⟨b.As,L,L⟩ l z.Bs.l).2.2],e)/\Cn r e (x.AM q (B7 (λ_=>c) d ⟨b.As,L,L⟩ l z.Bs.l).1) E (Fo y u m)/\BD (Fo y u m) m e)
  (λp _ e xi Z=>by
   let⟨xg,U,V⟩:=Z
   have xh:=Dx xi;have x2:=(V xd xm).t xx;have xp:=U;let⟨xL,N,J,xD,xy⟩:=xp
   have R:=J.Bw v b (SU W (by omega));rw[xD]at R;have xP:=R.N;have xQ:BE [(.n 0),(.b Ac),(.b Ac)] [(0,1),(1,1),(2,1)] [.n b.As,.b L,.b L]=A (.S (BC.c ⟨b.As,L,L⟩)):=B;let⟨xc,xj,T,xr⟩:=fz xa W t Y (λ_=>c) ⟨b.As,L,L⟩ xi U
   have S:=aT (λ_=>c) d ⟨b.As,L,L⟩ l p;rw[Ad (by grind)]at S;have xj:=xj;have T:Cn r xc (x.AM q (CE (B7 (λ_=>c) d ⟨b.As,L,L⟩ l p).1 d p c ⟨b.As,L,L⟩).1) E (Fo y u m):=T;by_cases xb:(CE (B7 (λ_=>c) d ⟨b.As,L,L⟩ l p).1 d p c ⟨b.As,L,L⟩).2.2=0
   .left;rw[Ad (by grind)]at S;refine⟨(),xc,?_,?_⟩;.show jj W9 170 2 _ _=jj W9 170 2 _ _;rw[S,Pf.2.2.1];simp only[QY,MB,xh,Pf.2.2.2.1,xb,Pf.2.2.2.2.2,Pf.2.2.2.2.1,H (BF (a:=p) (by omega)), *]
    grind
   .right;rw[Af xb]at S;have xu:=aO (f:=λ_=>c) (d:=d) (c:=⟨b.As,L,L⟩) (b:=l) (e:=p+1) (by grind) z.Bs.l (by omega);rw[xu,S];rw[ox xb]at T;refine⟨xc,?_,T,V.AQ xr⟩;show jj W9 170 2 _ _=_;rw[Pf.2.2.1];simp only[QY,Pf.2.2.2.1, *])
  (λ_ e Z=>by
   let⟨xg,U,V⟩:=Z
   have xv:=Dz z.Bs.l;refine⟨e,?_,U,V⟩;show jj W9 170 2 _ _=_;rw[Pf.2.2.1,xg];simp only[↓Q,↓QT,Aic,xv,Pf.2.1])
  (b:=()) (a:=m) ⟨B,by show Cn r m (x.AM q l) E _;rw[Ov t.Cp];grind,BD.refl _ _⟩
 let⟨e,xw,xn,xq⟩:=xF
 obtain⟨xL,N,J,rfl,xy⟩:=xo;have R:=J.Bw v b W;have X:=J.Bw q l t.Cp;let⟨xN,xU,x1⟩:=J.Lk t.Cp
 have x3:=J.N;have xh:m.AA (N.pc v) 1=A (.n q):=by rw[AJ R.N];show A (F.n b.AN)=_;rw[t.AN]
 have xO:m.AA (N.pc v) 2=A (.n d):=by rw[AJ R.N];show A (F.n b.Ao)=_;rw[t.Ao]
 have xM:=X.N;have xA:d<l.AB.l:=by grind
 let⟨xt,xl⟩:=Dm (f:=EX (N.og q)) (w:=1) (λ_=>B) X.AB (Ga xA)
 have x0:m.AA xt (d*1)=A (N.og q d):=by exact(xl.AA (f:=EX (N.og q)) (λ_=>B) P (b:=0) (by grind))
 have xH:=C4 (X.Aw d xI xB).1;rw[xG]at xH;refine⟨e,Bd B B ?_,xn.sub P,λq xC=>(xq q P).t (xe.N (xf.Dy xC))⟩;rw[Pf.1];simp only[QY,H xl.ia, *];exact xw
def iU{c:AH->M}{b:C _}{d:AP}{e:AH}(f:b[a]? =A e):C2 c b d (a+1)=((ER (C2 c b d a).1 a (c e)).1,(ER (C2 c b d a).1 a (c e)).2||(C2 c b d a).2):=by show(match b[a]?with|some e=>_|none=>_)=_;grind
def tl{f:CW}(E:Bj f.l){b:G}{p:Ah}{S:D->Aa}(W:Cn f b p S u){l R:D}{j o:AP}{v:Ab}{a:AD}(x:p.T[e]? =A j)(g:Gz f.l p e j l R o v a){xH:D}{xq:Ab}(T:DU f.l xH xq j):∃d,W9 (Ar 127) [.p f.x 0,.p (S e) 0] b=A (.b (Cl f.l p e).2,d)/\Cn f d (Cl f.l p e).1 S u/\BD u b d:=by
 have xi:=W;obtain⟨xN,k,r,rfl,xA⟩:=xi;have z:=r.Bw e j x;have xs:b.AA (k.pc e) 3=A (.n j.As):=AJ z.N 3;by_cases M:j.As>0
 .have xu:Cl f.l p e=(p,Ac):=by unfold Cl;simp only[DM x,Af M]
  rw[xu];refine⟨b,Bd B B ?_,W,P⟩;rw[Qs.1];simp only[QY, *]
 let⟨xg,w⟩:=g.FM
 unfold Cl Nx;simp only[DM x,Ad M,g.AN,g.Ao,Aif,DM g.Cp,w.BB,g.hn,Aiz];let⟨_,_,_,_,_,_,xY,_⟩:=g.Su E T
 have xa:=(E.A4 xg v w.hb).Ao R a g.hn;have xW:=xa.some E;have x1:=g.lt;have xZ:=T.Ap;let⟨_,d,N,xh,xn⟩:=Ez (h:=a.AT.l) (f:=λq _ d=>jj W9 127 2 [.n a.AT.l,Z AH.c a.AT,.p (k.pc e) 0,.p (k.pc l) 0,.n q,.b (C2 (A9 o) a.AT j q).2] d)
  (g:=λq _ d=>Cn f d (p.AM e (C2 (A9 o) a.AT j q).1) k.pc u/\BD u b d)
  (λq _ d xd xm=>by
   let⟨Y,xU⟩:=xm
   let⟨t,xc⟩:=Bo xd
   have J:=Dx xd;let⟨xQ,xf⟩:=w.Dv (xa.AT t P)
   let⟨xL,xy,xD,xB,U,xx,x0,x2⟩:=box d (.I 2 (AH.c t))
   let⟨xT,xP⟩:=F0 d (b:=2) [(.n 0),(.n 0)] (c:=AH.c t) xD xB B B
   have xK:Bf 2 d [.pi (AH.c t)]=A (.S (AH.c t)):=B;have xM:xy.AU xL 0 2=A (AH.c t):=B2 xx;have X:=Y.ext U;have xj:=X;let⟨xN,x4,r,xC,xA⟩:=X
   have y:=r.Bw l o (SU g.Cp (by omega));rw[xC]at y;let⟨xX,xF,V⟩:=Np y t xf
   have xk:=xj.ext V;have x3:=(Ns (A9 o) a.AT j q).1.Ap;let⟨xz,xG,xl,xo⟩:=im xk (JO x) (f:=q) (by omega) xQ
   rw[MD]at xl;have xb:=iU (c:=A9 o) (d:=j) xc;rw[PQ xf]at xb;refine⟨(),xz,?_,by grind,λl xe=>(xo l xe).t ((V.N P).t ((U.N (Y.Dy xe)).t P))⟩;show jj W9 127 2 _ _=jj W9 127 2 _ _;rw[xb,Qs.2.2.2.1];simp only[↓xT,↓MB,↓Q,↓QT,J,Qs.2.2.2.2.1,↓H (Kd xc),↓H xK,↓H xP,↓H xM,↓H xF,↓H xG,Qs.2.2.2.2.2,↓H (BF (a:=q) (by omega))])
  (b:=()) (a:=b) ⟨by show Cn f b (p.AM e j) k.pc u;rw[Ov x];grind,P⟩
 have N:jj W9 127 2 [.n a.AT.l,Z AH.c a.AT,.p (k.pc e) 0,.p (k.pc l) 0,.n 0,.b Ac] b=jj W9 127 2 [.n a.AT.l,Z AH.c a.AT,.p (k.pc e) 0,.p (k.pc l) 0,.n a.AT.l,.b (C2 (A9 o) a.AT j a.AT.l).2] d:=N;have y:=r.Bw l o g.Cp;let⟨xV,xE,xO⟩:=r.Lk g.Cp
 have xS:b.AA f.x 2=A k.cv:=AJ r.N 2;have xR:b.AA f.x 0=A (Z Ab.c f.l):=AJ r.N 0;have J:b.AA (k.pc e) 1=A (.n l):=by rw[AJ z.N];show A (F.n j.AN)=_;rw[g.AN]
 have xr:b.AA (k.pc e) 2=A (.n R):=by rw[AJ z.N];show A (F.n j.Ao)=_;rw[g.Ao]
 have xp:b.AA (k.pc l) 0=A (.n xg):=by rw[AJ y.N];show A (F.n o.A4)=_;rw[w.ha]
 have xv:Bt 2 [.pi (Ab.c v)]=A (.pi ((Ab.c v).d 2)):=B;have xI:AW b [.pi ((Ab.c v).d 2)]=A (Z AD.c v.Ay):=B;have xw:Bt 3 [.pi (AD.c a)]=A (.pi ((AD.c a).d 3)):=B;have xJ:AW b [.pi ((AD.c a).d 3)]=A (Z AH.c a.AT):=B;have xt:=Dz a.AT.l;refine⟨d,Bd B B ?_,xh,xn⟩;rw[Qs.1];simp only[QY,xv,xI,xw,xJ,xs,M,Qs.2.1,xS,J,xE,xO,xR,xp,Da w.hb,xr,Gq g.hn];rw[N,Qs.2.2.2.1];simp only[↓Q,↓QT,Aic,xt,Qs.2.2.1]
def Lh{a:G}{c:Aa}{b:D}{d:F}(e:a.AA c b=A d):BV .Dg [.p c b] a d=L:=by show KT (a.AA c b) d=L;rw[e];exact NR _
def iR{d:CW}(xk:Bj d.l){l:G}{q:Ah}{o:D->Aa}{p:Aa->Prop}(xH:Cn d l q o p){f:D}{e g:AP}(X:q.T[f]? =A e){xf:D}{a:Ab}(z:DU d.l xf a e)(xt:e.next=k)(xM:f≠k)(u:q.T[k]? =A g)(xL:g.Ap.l=a.Ap){M:Aa}(xq:l.N M=A (.I 5 (Ab.c a)))(xG:p M)(t:Ak):∃b,jj W9 129 5 [.p M 0,.p d.x 0,.p (o f) 0,.b t] l=A (.AC [.b ((Gp d.l q f).2||t),.n 0],b)/\Cn d b (Gp d.l q f).1 o p/\BD p l b:=by
 unfold Gp;simp only[DM X,z.BB,xt,Aif,DM u];have N:=xk.A4 xf a z.hb;have xN:=N.A6;let⟨_,b,y,xg,xl⟩:=Ez (h:=a.A6.l) (f:=λj _ b=>jj W9 129 2 [.n a.A6.l,Z AH.c a.A6,.p d.x 0,.p (o f) 0,.n j,.b ((C2 (A9 e) a.A6 g j).2||t)] b)
  (g:=λj _ b=>Cn d b (q.AM k (C2 (A9 e) a.A6 g j).1) o p/\BD p l b)
  (λj _ b xa xj=>by
   let⟨T,xI⟩:=xj
   let⟨r,Y⟩:=Bo xa
   let⟨xE,xc⟩:=z.Dv (N.nx r P)
   let⟨xQ,W,xv,xs,R,xp,xO,xP⟩:=box b (.I 2 (AH.c r))
   let⟨xF,xD⟩:=F0 b (b:=2) [(.n 0),(.n 0)] (c:=AH.c r) xv xs B B
   have xy:Bf 2 b [.pi (AH.c r)]=A (.S (AH.c r)):=B;have S:=T.ext R;let⟨xR,v,x,xu,xK⟩:=S
   subst xu;have E:=x.Bw f e (SU X Om);let⟨xn,xd,xB⟩:=x.Lk (JO u (b:=(C2 (A9 e) a.A6 g j).1))
   have xo:W.AA (v.pc f) 7=A (.n k):=by rw[AJ E.N];grind
   let⟨J,xw,w⟩:=Np E r xc
   have xh:=S.ext w;have U:=x.ext w;have xz:An (BV .Dg [.p xn (k*1)] J (.p (v.pc k) 0)) (An (BV .Dg [.p (v.pc f) 7] J (.n k)) (An (BV .Dg [.p d.x 2] J v.cv) L Ac) Ac) Ac=L:=by
    let⟨xJ,xe,xC⟩:=U.Lk (JO u (b:=(C2 (A9 e) a.A6 g j).1))
    rw[xd]at xe;cases xe;rw[Lh xC,Lh (by rw[AJ (E.ext w).N];grind),Lh (AJ U.N 2)];rfl
   have xS:=(Ns (A9 e) a.A6 g j).1.Ap;let⟨xr,xx,xi,xm⟩:=im xh (JO u) (f:=j) (by omega) xE
   rw[MD]at xi;have V:=iU (c:=A9 e) (d:=g) Y;rw[PQ xc]at V;refine⟨(),xr,?_,by grind,λxA xb=>(xm xA xb).t ((w.N P).t ((R.N (T.Dy xb)).t P))⟩;show jj W9 129 2 _ _=jj W9 129 2 _ _;rw[V,MX.2.2.2.2.1,Aka];simp only[↓xF,↓MB,↓Q,↓QT,(Dx xa),MX.2.2.2.2.2.1,↓H (Kd Y),↓H xy,↓H xD,↓H (AJ x.N 2:W.AA d.x 2=A v.cv),↓H xo,↓H xd,↓H xB,↓H (B2 xp),↓H xw,↓Jz xz,↓H xx,MX.2.2.2.2.2.2,↓H (BF (a:=j) (by omega))])
  (b:=()) (a:=l) ⟨by show Cn d l (q.AM k g) o p;rw[Ov u];grind,P⟩
 have y:jj W9 129 2 [.n a.A6.l,Z AH.c a.A6,.p d.x 0,.p (o f) 0,.n 0,.b (Ac||t)] l=jj W9 129 2 [.n a.A6.l,Z AH.c a.A6,.p d.x 0,.p (o f) 0,.n a.A6.l,.b ((C2 (A9 e) a.A6 g a.A6.l).2||t)] b:=y;rw[AjE]at y;refine⟨b,?_,xg,xl⟩;rw[MX.2.1];simp only[QY,xq];rw[y,MX.2.2.2.2.1];simp only[↓Q,↓QT,Aic,(Dz a.A6.l),MX.2.2.2.1]
def tn{e:CW}(E:Bj e.l){p:G}{d:Ah}{xk:D->Aa}(z:Cn e p d xk u){f yu yq:D}{c x1:AP}{x2:Ab}{ys:AD}(q:d.T[f]? =A c)(xZ:Gz e.l d f c yu yq x1 x2 ys){g:Ab}(k:DU e.l h g c)(yK:g.A6.l≠0)(R:Dk e.l d):∃xf s,W9 (Ar 129) [.p e.x 0,.p (xk f) 0] p=A (.AC [.b (EM e.l d f).2.1,.n (EM e.l d f).2.2],xf)/\Cn e xf (EM e.l d f).1 s u/\BD u p xf/\∀xi,xi<d.T.l->s xi=xk xi:=by
 have xn:=E.A4 h g k.hb;have yJ:=(Aid.1 q).1;have yl:=R.AX;have ye:=R.next f c q;have yL:=R.As f c q;let⟨I,xz⟩:=Bo (b:=g.A6) (a:=0) (by omega)
 let⟨j,xA⟩:=k.Dv (xn.nx I P)
 have xB:B8 e.l c=j:=by unfold B8;rw[k.BB,xz];exact PQ xA
 let⟨J,xw,yp,yj,xc,ya,yN,yQ⟩:=box p (.I 5 (Ab.c g))
 let⟨xM,xI⟩:=F0 p (b:=5) [(.s []),(.n 0),.sn,.sn,.sn] (c:=Ab.c g) yp yj B B
 have yE:=z.ext xc;have xU:=z;obtain⟨yR,o,S,rfl,yI⟩:=xU;have xL:p.AA e.x 0=A (Z Ab.c e.l):=AJ S.N 0;have xt:p.AA (o.pc f) 0=A (.n h):=by rw[AJ (S.Bw f c q).N];show A (F.n c.A4)=_;rw[k.ha]
 have xF:Bf 5 p [.pi (Ab.c g)]=A (.S (Ab.c g)):=B;have xs:xw.AA J 3=A (Z AH.c g.A6):=AJ ya 3;have xC:AZ 2 [Z AH.c g.A6,.n 0]=A (.pi (AH.c I)):=Kd (a:=0) xz;have xG:Bf 2 xw [.pi (AH.c I)]=A (.S (AH.c I)):=B;have xQ:=(S.Bw f c q).ext xc;let⟨xx,xD,xS⟩:=Np xQ I xA
 let⟨yx,m,yo,yk,xT,x9,yM,yP⟩:=box xx (.I 2 (M.c j))
 let⟨xN,xJ⟩:=F0 xx (b:=2) [(.i .u8 0),(.n 0)] (c:=M.c j) yo yk B B
 have xH:m.AU yx 0 2=A (M.c j):=B2 x9;have N:=xc.AQ (xS.AQ xT);have xW:BD u p m:=P;have r:=Nq j;have x:=YH j;have xu:DW [.b L]=A (.b Ac):=B;have yH:DW [.b Ac]=A (.b L):=B;unfold EM;simp only[DM q,xB];by_cases V:j.Ai=0;.rw[Af V];rw[Be V]at r;refine⟨m,o.pc,Bd B B ?_,z.ext N,xW,P⟩;rw[MX.1];simp only[QY,H (Da k.hb),r.H B,QB, *]
 rw[Ad V];rw[Ba V]at r;by_cases U:j.Ai=5
 .rw[Af U];rw[Be U]at x;let⟨X,Y,v,xX⟩:=tF E (z.ext N) q xZ k j (by omega)
  refine⟨X,o.pc,Bd B B ?_,v,P,P⟩;rw[MX.1];simp only[QY,H (Da k.hb),r.H B,QB,x.H B, *]
 rw[Ad U];rw[Ba U]at x;have xp:=z.V N;have xo:Fo u p m J:=P;have yb:m.N J=A (.I 5 (Ab.c g)):=P;have y:=(S.Bw f c q).ext N;have xl:m.AA (o.pc f) 7=A (.n c.next):=AJ y.N 7;by_cases W:c.next= -1
 .have yy:m.AA (o.pc f) 0=A (.n (h:K)):=by rw[AJ y.N];show A (F.n c.A4)=_;rw[k.ha]
  have yz:m.AA (o.pc f) 1=A (.n c.AN):=AJ y.N 1;have yA:m.AA (o.pc f) 2=A (.n c.Ao):=AJ y.N 2;have yB:m.AA (o.pc f) 3=A (.n c.As):=AJ y.N 3;have x8:=GJ (a:=c.As) (b:=1) (by omega) (by omega);let⟨X,s,Y,v,xX,xr⟩:=ig xp k.hb (aW E k.hb) yl c.AN c.Ao (c.As+1) j
  have yt:Fh e.l d f=if(ED e.l d (h:K) c.AN c.Ao (c.As+1) j).2≠0 then(d,Ac,(ED e.l d (h:K) c.AN c.Ao (c.As+1) j).2)else((ED e.l d (h:K) c.AN c.Ao (c.As+1) j).1.AM f {c with next:=(d.T.l:K)},L,0):=by unfold Fh;simp only[DM q,xB,W,AiJ,k.ha]
  rw[yt];by_cases x5:d.T.l=400
  .have yf:ED e.l d (h:K) c.AN c.Ao (c.As+1) j=(d,5):=by unfold ED;grind
   rw[yf]at Y v⊢;have x4:¬((5:K)=0):=by omega
   simp only[ne_eq,x4,Aic,AiJ];refine⟨X,s,Bd B B ?_,v.sub P,P,xr⟩;rw[MX.1];simp only[QY,H (Da k.hb),r.H B,QB,x.H B,Int.reduceEq, *]
  .have yg:ED e.l d (h:K) c.AN c.Ao (c.As+1) j=(⟨d.T++[{Dl e.l g h c.AN c.Ao (c.As+1)with Ap:=(Dl e.l g h c.AN c.Ao (c.As+1)).Ap.set 0 j}],d.Ae,d.round,d.Aq⟩,0):=by
    unfold ED;rw[Ad x5,Aif,k.hb];rfl
   rw[yg]at Y v⊢
   have xe:¬((0:K)≠0):=by omega
   simp only[Ad xe]
   have xh:(⟨d.T++[{Dl e.l g h c.AN c.Ao (c.As+1)with Ap:=(Dl e.l g h c.AN c.Ao (c.As+1)).Ap.set 0 j}],d.Ae,d.round,d.Aq⟩:Ah).T[f]? =A c:=by grind
   let⟨yC,xm,T,yn,yd⟩:=v
   have yw:xm.pc f=o.pc f:=by grind
   have xR:=T.Bw f c xh
   have yD:X.AA e.x 2=A xm.cv:=AJ T.N 2
   have xj:=C4 T.T
   rw[Aip]at xj
   have ym:(⟨d.T++[{Dl e.l g h c.AN c.Ao (c.As+1)with Ap:=(Dl e.l g h c.AN c.Ao (c.As+1)).Ap.set 0 j}],d.Ae,d.round,d.Aq⟩:Ah).T.l=d.T.l+1:=by grind
   rw[ym]at xj
   have xv:=Gu (a:=((d.T.l+1:D):K)) (b:=1) (by omega) (by omega)
   rw[show((d.T.l+1:D):K)-1=(d.T.l:K) by omega]at xv
   let⟨xy,xK,xO,xq⟩:=xR.S2 (d.T.l:K)
   have x0:=T.OD xh (t:=.Bw f) B xq xO
   have yF:=xq.FQ (by grind) yd
   have xV:Cn e xy _ s (Fo u p m):=⟨yC,xm,x0,yn,P⟩
   have yh:((⟨d.T++[{Dl e.l g h c.AN c.Ao (c.As+1)with Ap:=(Dl e.l g h c.AN c.Ao (c.As+1)).Ap.set 0 j}],d.Ae,d.round,d.Aq⟩:Ah).AM f {c with next:=(d.T.l:K)}).T[d.T.l]? =A {Dl e.l g h c.AN c.Ao (c.As+1)with Ap:=(Dl e.l g h c.AN c.Ao (c.As+1)).Ap.set 0 j}:=by show((d.T++_).set f _)[d.T.l]? =_;grind
   have xP:DU e.l h g {c with next:=(d.T.l:K)}:=k.BG ⟨B,B,B,B,B,B,B,B⟩
   have yG:=xn.Ap
   have yi:(((Dl e.l g h c.AN c.Ao (c.As+1)).Ap.set 0 j).l:K)=g.Ap:=by rw[Aiv];show((Bv g.Ap.n AK).l:K)=_;grind
   have yc:xy.N J=A (.I 5 (Ab.c g)):=P
   let⟨xg,xa,xd,xY⟩:=iR E xV (JO xh) xP B (by omega) yh yi yc xo L
   have yv:s f=o.pc f:=P
   rw[yv]at xa
   rw[yw]at xK
   refine⟨xg,s,Bd B B ?_,xd.sub P,P,xr⟩
   rw[MX.1]
   simp only[↓xM,↓xN,↓Q,↓QT,↓H xL,↓H xt,↓H (Da k.hb),↓H xF,↓H xI,↓H xs,↓H xC,↓H xG,↓H xD,↓H xJ,↓H xH,↓r.H B,QB,↓H xu,↓x.H B,↓H xl,W,↓H yy,↓H yz,↓H yA,↓H yB,↓H x8,↓H Y,MX.2.2.1,↓H yD,↓H xj,↓H xv,↓H xK]
   grind
 .let⟨xE,x7,w⟩:=ye.resolve_left W
  unfold Fh;simp only[DM q,Ad W];have xe:¬((0:K)≠0):=by omega
  simp only[Ad xe];have yO:=w.lt;let⟨yr,x3,xb⟩:=R.Bw xE x7 w.Cp
  have:yr=h:=by have:=xb.ha;have:=k.ha;have:=w.A4;omega
  subst this;have:x3=g:=AiI (xb.hb.s.t k.hb);subst this;obtain⟨xg,xa,xd,xY⟩:=iR E xp q k w.next (by omega) w.Cp xb.Ap yb xo Ac;have xa:jj W9 129 5 [.p J 0,.p e.x 0,.p (o.pc f) 0,.b Ac] m=_:=xa;rw[w.next]at xl;have x6:¬((xE:K)= -1):=by omega
  refine⟨xg,o.pc,Bd B B ?_,xd.sub P,P,P⟩;rw[MX.1];simp only[↓xM,↓xN,↓Q,↓QT,Aic,↓H xL,↓H xt,↓H (Da k.hb),↓H xF,↓H xI,↓H xs,↓H xC,↓H xG,↓H xD,↓H xJ,↓H xH,↓r.H B,Ai2,↓H xu,↓x.H B,↓H xl,x6];omega
