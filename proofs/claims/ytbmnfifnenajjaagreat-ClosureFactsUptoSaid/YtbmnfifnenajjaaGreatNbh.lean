/- Part of the proof. -/
import Derived.Test.YtbmnfifnenajjaaGreatNbg
set_option linter.all false
noncomputable section
open Option renaming some->A,getD->Option.g,bind->Option.b
open _root_ renaming rfl->B,List->C,Nat->D,Int->K,if_neg->Ad,if_pos->Af,Option->Ae,Bool->Ah,cond->Aj,decide_eq_true->A0,decide_eq_false->A2
open Bool renaming true->L,false->Aa
open Decidable renaming decide->Ao
open List renaming replicate->BG,length->List.l,map->List.m,take->List.t,drop->List.d
open Go.IntKind renaming i64->Go.IntKind.n
open Array renaming toList->Array.l
open Eq renaming trans->Eq.t,symm->Eq.s
open Or renaming inl->Or.i,inr->Or.j
open Int renaming toNat->Int.n
namespace Go.Proofs.YtbmnfifnenajjaaGreat
open Go.Fg
def B_.VO{b:CI}{d:G}{c:Ai}{e:D->T}{a:T->Prop}(g:B_ b d c e a){f:T}(o:a f)(i:BV):B_ b (d.set f i) c e a:=by obtain⟨j,k,h,rfl,l⟩:=g;exact⟨j,k,h.Ar λp n m=>⟨by rw[AN,Ad P],by grind⟩,B,P⟩
variable{g:G}
def B_.iV{d:CI}{f:G}{e:Ai}{h:D->T}{b:T->Prop}(j:B_ d f e h b){i:F}(q:∀a,¬As i a->b a)(c:Iw (λa=>¬As i a) f g):B_ d g e h b:=by obtain⟨m,n,k,rfl,o⟩:=j;exact⟨m,n,k.Ar λa l p=>⟨c.o a P,by rw[c.l];grind⟩,B,λa l=>⟨by rw[c.l];grind,P⟩⟩
def Aw.rd{d:G}{h:F}{g:C _}(j:Aw d h N.c 2 g){b:D}{i:N}(e:g[b]? =A i):∃a,AR 2 [h,.n b]=A (.p a (b*2))/\d.AL a (b*2) 2=A (N.c i):=by
 let⟨a,c⟩:=CD (f:=N.c) (w:=2) (λ_=>B) j e
 exact⟨a,c.ia,c.AL (f:=N.c) (λ_=>B) e⟩
def J0{a:C _}{b:D}{c:N}(d:a[b]? =A c):Cu a b=c:=by unfold Cu;grind
variable{i:CI}
def uc{b:Ai}{m:D->T}{f:T->Prop}(o:B_ i g b m f)(n:Ft b.Am)(a:ED)(y:a.op=1\/a.op=3\/a.op=4)(l:∀w∈a.CQ,Ie w b.Am.l=L){d:T}{x:C F}(r:g.M d=A (.I 2 x))(k:f d):∃h c,W9 (pos 99) [.p i.x 0,.S a.c8] g=A (.AB [.S (N.c (Eh b a).2.1),.n (Eh b a).2.2],h)/\AX 2 h [.p d 0,.S (N.c (Eh b a).2.1)]=A (AC,c)/\c.AL d 0 2=A (N.c (Eh b a).2.1)/\B_ i c (Eh b a).1 m f/\∀e,f e->e≠d->c.M e=g.M e:=by
 have H:(BE b.Am a).F1=[]:=by unfold BE;grind
 let⟨h,s,p,q⟩:=gp o n a (by grind) l (by grind) (λE l=>by grind)
 let⟨c,v,u,j⟩:=Gy ((q d k).t r) (Eh b a).2.1
 refine⟨h,c,s,v,u,by rw[j];exact p.VO k _,λe z t=> ?_⟩;rw[j,AN,Ad t];grind
structure c5(e:C AE)(c:A5)(a:Au)(b:C N):Prop where
 A7:1<=b.l
 Rz:a.op=4->(b.l:K)=Du a.A8/\0<Du a.A8/\∀d∈b,PK d
 M3:a.op=6\/a.op=12->2<=b.l
 V1:a.op=10\/a.op=12\/a.op=13->∀d∈b,Ie d e.l=L
 rd:(0<=c.FE/\c.FE<=1000)/\(0<=c.Ax/\c.Ax<=1000)
def re{M:CI}{n:G}{k:Ai}{xn:D->T}{o:T->Prop}{t:F}(xb:B_ M n k xn (λe=>o e\/¬As t e))(ym:∀e,o e->As t e)(xO:Ft k.Am){s:C N}(x6:Aw n t N.c 2 s){j:A5}{d:Au}(v:c5 k.Am j d s):∃z,W9 (pos 101) [.p M.x 0,.S (A5.c j),.S (Au.c d),t] n=A (.AB [.S (N.c (E7 k j d s).2.1),.n (E7 k j d s).2.2],z)/\B_ M z (E7 k j d s).1 xn o/\Bo o n z:=by
 let⟨ya,xe,xZ,xV,xN,xS,xM,yo⟩:=box n (.I 2 (A5.c j))
 let⟨xo,xz,x0,xW,xq,xT,x4,yp⟩:=box xe (.I 4 (Au.c d))
 let⟨y,r,x1,xX,xr,xy,yn,yq⟩:=box xz (.I 2 [.i .u8 0,.n 0])
 have yc:∀(xc:F->G->R),bl (.p n.next 0) (n.V (.I (Bq (F.I (.S (A5.c j)))) (F.I (.S (A5.c j))))) xc=xc (.p ya 0) xe:=Dy n (.I 2 (A5.c j)) xZ xV;have yd:∀(xc:F->G->R),bl (.p xe.next 0) (xe.V (.I (Bq (F.I (.S (Au.c d)))) (F.I (.S (Au.c d))))) xc=xc (.p xo 0) xz:=Dy xe (.I 4 (Au.c d)) x0 xW;have ye:=Jp xz x1 xX;have xa:=xN.AI (xq.AI xr);have yl:=(xr.M (xq.lv xM)).t ((xq.M xM).t xS);have xx:=(xr.M x4).t xT;have xP:r.Ap xo 0=A (.i .u8 d.op):=Ay xx 0;have xQ:r.Ap xo 1=A (.s d.A8):=Ay xx 1;have ys:r.AL xo 0 4=A (Au.c d):=BB xx;have x5:¬Lv n y:=by grind
 have xu:=xb.V xa;have xm:=x6.ext xa;have xt:ES (λe=>o e\/¬As t e) n r y:=by grind
 have xs:∀e,o e->ES (λe=>o e\/¬As t e) n r e:=by grind
 have yf:∀e,o e->e≠y:=λe xA k=>x5 (k▸xb.C4 P);let⟨h,xK⟩:=Bb (b:=s) (a:=0) v.A7
 let⟨x3,xL,yr⟩:=xm.rd xK
 have xL:AR 2 [t,.n 0]=A (.p x3 0):=xL;have J:=J0 xK;have xd:∀xp:N,∃z,AX 2 r [.p y 0,.S (N.c xp)]=A (AC,z)/\z.AL y 0 2=A (N.c xp)/\B_ M z k xn o/\Bo o n z:=λxp=>by
  let⟨g,X,V,xH⟩:=Gy xy xp
  exact⟨g,X,V,by rw[xH];exact(xu.VO xt _).sub xs,λe xA=>by rw[xH,AN,Ad P];exact xa.M (xb.C4 P)⟩
 unfold E7;by_cases xj:d.op=4
 .rw[Af xj];let⟨x7,x8,x9⟩:=v.Rz xj
  let⟨g,xR,xv⟩:=BS.FV (t:=λe=>¬As t e) (BS.cons ((Fs.im (c:=r) (a:=.s d.A8) B).up (by omega)) (BS.cons (Fs.Cs (a:=N.c) (g:=2) (λe d=>d) (λ_=>B) (λ_=>B) xm) (BS.nil 2 r))) (by omega)
  have U:=py d.A8 s x7 x8 x9 r _ g xR;have xU:g.M y=A (.I 2 [.i .u8 0,.n 0]):=(xv.o y P).t xy;let⟨m,Y,W,xI⟩:=Gy xU (Kc d.A8 s)
  refine⟨m,AZ B B ?_,by rw[xI];exact((xu.iV P xv).VO xt _).sub xs,λe xA=>by rw[xI,AN,Ad P,xv.o e P];exact xa.M (xb.C4 P)⟩
  rw[MJ.1];simp only[↓yc,↓yd,↓ye,↓Q,↓QT,↓H xP,xj,↓H xQ,↓H U,↓H Y,↓H W]
 rw[Ad xj];by_cases xF:d.op=6
 .rw[Af xF];let⟨Z,xf⟩:=Bb (b:=s) (a:=1) (v.M3 Om)
  let⟨xB,xh,yb⟩:=xm.rd xf
  have xh:AR 2 [t,.n 1]=A (.p xB 2):=xh;have xl:=MD h;rw[J,(J0 xf)];by_cases xk:h.Ak=0
  .let⟨g,X,V,u,x⟩:=xd Z
   rw[A0 xk]at xl;rw[Af xk];refine⟨g,AZ B B ?_,u,x⟩;rw[MJ.1];simp only[QY,Int.reduceEq,xl.H B,QB, *]
  .let⟨g,X,V,u,x⟩:=xd h
   rw[A2 xk]at xl;rw[Ad xk];refine⟨g,AZ B B ?_,u,x⟩;rw[MJ.1];simp only[QY,Int.reduceEq,xl.H B,QB,MJ.2.2, *]
 rw[Ad xF];by_cases xG:d.op=7
 .rw[Af xG,J];let⟨g,X,V,u,x⟩:=xd h
  refine⟨g,AZ B B ?_,u,x⟩;rw[MJ.1];simp only[QY,Int.reduceEq, *]
 rw[Ad xG];have xw:∀p:ED,(p.op=1\/p.op=3\/p.op=4)->(∀q∈p.CQ,Ie q k.Am.l=L)->∃g m,W9 (pos 99) [.p M.x 0,.S p.c8] r=A (.AB [.S (N.c (Eh k p).2.1),.n (Eh k p).2.2],g)/\AX 2 g [.p y 0,.S (N.c (Eh k p).2.1)]=A (AC,m)/\m.AL y 0 2=A (N.c (Eh k p).2.1)/\B_ M m (Eh k p).1 xn o/\Bo o n m:=λp xY x2=>by
  let⟨g,m,U,Y,W,E,I⟩:=uc xu xO p xY x2 xy xt
  exact⟨g,m,U,Y,W,E.sub xs,λe xA=>(I e P P).t (xa.M (xb.C4 P))⟩
 by_cases xC:d.op=10
 .rw[Af xC,J];have xJ:Cb [(.i .u8 0),(.i .u8 0),(.n 0),(.i .u8 0),(.n 0),(.i .u8 0),(.n 0),(.n 0)] [(0,1),(1,2)] [(.i .u8 1),.S (N.c h)]=A (.S (ED.c8 ⟨1,h,AO,AO,0⟩)):=B;let⟨g,m,U,Y,W,E,I⟩:=xw ⟨1,h,AO,AO,0⟩ P (λq xg=>by
   have:q=h:=by simpa[ED.CQ]using xg
   subst this;exact v.V1 Om q P)
  refine⟨m,AZ B B ?_,E,I⟩;rw[MJ.1];simp only[QY,Int.reduceEq, *]
 rw[Ad xC];by_cases xi:d.op=12
 .rw[Af xi];let⟨Z,xf⟩:=Bb (b:=s) (a:=1) (v.M3 Om)
  let⟨xB,xh,yb⟩:=xm.rd xf
  have xh:AR 2 [t,.n 1]=A (.p xB 2):=xh;rw[J,(J0 xf)];let⟨yg,yh,yi⟩:=v.rd
  have yk:=Vg 1000 j.FE (by unfold Dk;omega) (by unfold Dk;omega);have yj:=F2 (a:=1000*j.FE) (b:=j.Ax) (by omega) (by omega);have xJ:Cb [(.i .u8 0),(.i .u8 0),(.n 0),(.i .u8 0),(.n 0),(.i .u8 0),(.n 0),(.n 0)] [(0,1),(1,2),(3,2),(7,1)] [(.i .u8 3),.S (N.c h),.S (N.c Z),.n (1000*j.FE+j.Ax)]=A (.S (ED.c8 ⟨3,h,Z,AO,1000*j.FE+j.Ax⟩)):=B;let⟨g,m,U,Y,W,E,I⟩:=xw ⟨3,h,Z,AO,1000*j.FE+j.Ax⟩ P (λq xg=>by
   have:q=h\/q=Z:=by simpa[ED.CQ]using xg
   rcases this with rfl|rfl;.exact v.V1 (.j (.i xi)) q P
   .exact v.V1 (.j (.i xi)) q P)
  refine⟨m,AZ B B ?_,E,I⟩;rw[MJ.1];simp only[QY,Int.reduceEq, *]
 rw[Ad xi];by_cases xD:d.op=13
 .rw[Af xD,J];have xJ:Cb [(.i .u8 0),(.i .u8 0),(.n 0),(.i .u8 0),(.n 0),(.i .u8 0),(.n 0),(.n 0)] [(0,1),(1,2)] [(.i .u8 4),.S (N.c h)]=A (.S (ED.c8 ⟨4,h,AO,AO,0⟩)):=B;let⟨g,m,U,Y,W,E,I⟩:=xw ⟨4,h,AO,AO,0⟩ P (λq xg=>by
   have:q=h:=by simpa[ED.CQ]using xg
   subst this;exact v.V1 Om q P)
  refine⟨m,AZ B B ?_,E,I⟩;rw[MJ.1];simp only[QY,Int.reduceEq, *]
 rw[Ad xD];by_cases xE:d.op=14
 .rw[Af xE,J];let⟨g,X,V,u,x⟩:=xd (Na h)
  refine⟨g,AZ B B ?_,u,x⟩;rw[MJ.1];simp only[QY,Int.reduceEq,(pz h).H B, *]
 .rw[Ad xE,J];let⟨g,X,V,u,x⟩:=xd (M_ d h)
  refine⟨g,AZ B B ?_,u,x⟩;rw[MJ.1];simp only[QY,MJ.2.1,(pA d h).H B, *]
def kv{b c:AK}(e:∀a,H0 b a=H0 c a):∀d:C AF,Kh b d=Kh c d
 |[]=>rfl
 |a::f=>by unfold Kh;rw[e a,kv e f]
def kw{b:AK}:∀{f:C AF}{d:C N},Kh b f=A d->d=f.m (Bs b)
 |[],d,a=>by cases a;rfl
 |g::h,d,a=>by
  unfold Kh at a
  cases c:H0 b g with
  |none=>rw[c]at a;cases a
  |some j=>
   cases e:Kh b h with
   |none=>rw[c,e]at a;cases a
   |some i=>
    rw[c,e]at a;cases a
    rw[kw e,AeC];unfold Bs;rw[c];rfl
structure RV(j:CI)(b:Ai)(m:A5)(k f:D)(i:AK)(h:Ab)(a:Au)(d:C N):Prop where
 hi:m.FE=(k:K)
 hj:m.Ax=(f:K)
 hc:b.Ac[k]? =A i
 ha:∃g:D,i.Bc=(g:K)/\j.l[g]? =A h
 hn:h.Av[f]? =A a
 hf:f<i.AS.l
 hv:Kh i a.A3=A d
 hl:a.A3.l<1000000
 Ld:1<=d.l
 Fj:Ft b.Am
 AA:0<=b.AA/\b.AA<=6000
 aG:¬(a.op=8\/a.op=9)->a.op≠11->a.op≠5->c5 b.Am m a d/\FB b k f 0
 sw:a.op=5->∃c e,d[0]? =A c/\d[1]? =A e/\(-9223372036854775806<=c.n/\c.n<=9223372036854775807)/\0<=(FZ c e).1/\FB b k f (FZ c e).1.n
 st:a.op=11->∃c e l,d[0]? =A c/\d[1]? =A e/\d[2]? =A l/\(∀p∈[c,e,l],Ie p b.Am.l=L)/\(BE b.Am ⟨2,c,e,l,0⟩).F1.l<1000000/\∀o∈(BE b.Am ⟨2,c,e,l,0⟩).F1,IY b o
 call:a.op=8\/a.op=9->(∃n,i.AG[f]? =A n/\n.l<1000000)/\b.Ac.l<=400/\((Cu d 0).Ak≠5->∃(g:D)(h:Ab),CH j.l a.A8=(g:K)/\j.l[g]? =A h/\RT j.l h)
structure kL(g:CI)(h:Ai)(l:D->T)(c:T->Prop)(m:A5)(k:Au)(j:C N)(i b:G)(d e:T)(f:F):Prop where
 H:B_ g b h l (λa=>(c a\/a=d\/a=e)\/¬As f a)
 ap:∀a,c a\/a=d\/a=e->As f a
 o:Aw b f N.c 2 j
 gq:b.M d=A (.I 2 (A5.c m))
 gn:b.M e=A (.I 4 (Au.c k))
 T:Bo c i b
variable{k:D}{l:AK}{u:T->Prop}
def Aam{o:G}{e:Ai}{V:D->T}(Y:B_ i o e V u){j:A5}{w:D}{xs:Ab}{f:Au}{xg:C N}(d:RV i e j k w l xs f xg)(q:K)(xT:e.AA≠6000):∃v h r I,xx W9 53 [.p i.x 0,.S (A5.c j),.n q] o=jj W9 53 3 [.b (Ao (f.op=8\/f.op=9)),.i .u8 f.op,.p i.x 0,.p r 0,I,.p (V k) 0,.p h 0] v/\kL i (DO e j q) V u j f xg o v h r I:=by
 let⟨h,U,xS,xQ,xl,xt,xX,xY⟩:=box o (.I 2 (A5.c j))
 have xm:=Y.V xl;have xR:∀m,u m->Lv o m:=λm g=>Y.C4 g;obtain⟨xD,s,xd,rfl,xv⟩:=xm;have X:ES u o U h:=by grind
 let⟨xr,xw,xy⟩:=d.ha
 have x8:U.Ap i.x 5=A (.n e.AA):=Ay xd.M 5;let⟨xO,xP⟩:=d.AA
 have xL:=F2 (a:=e.AA) (b:=1) (by omega) (by omega);let⟨E,x3,z,xp⟩:=xd.MZ (e.AA+1)
 have xb:=xp.Fp (by grind) xv;have x7:E.Ap i.x 2=A s.cv:=Ay z.M 2;have S:=(xb.2 h X).t xt;have xE:E.Ap h 0=A (.n k):=by rw[Ay S];show A (F.n j.FE)=_;rw[d.hi]
 let⟨xK,xU,x2⟩:=z.Lf d.hc
 have W:=z.BC k l d.hc;have x1:E.Ap (s.pc k) 6=A (s.fv k):=Ay W.M 6;have xF:E.Ap h 1=A (.n w):=by rw[Ay S];show A (F.n j.Ax)=_;rw[d.hj]
 let⟨xN,xz⟩:=Bb d.hf
 let⟨xJ,p,xV,x4,J,xa⟩:=W.cp xz q
 have xq:=z.NI d.hc (t:=.AS k) B xa J;have xc:=xa.Fp (by grind) xb.1;have xf:=(xc.2 h X).t S;have x6:p.Ap i.x 0=A (Z Ab.c i.l):=Ay xq.M 0;have x0:p.Ap (s.pc k) 0=A (.n xr):=by rw[Ay J.M];show A (F.n l.Bc)=_;rw[xw]
 have xG:p.Ap h 1=A (.n w):=by rw[Ay xf];show A (F.n j.Ax)=_;rw[d.hj]
 let⟨r,xu,xB,xA,x,R,xh,xZ⟩:=box p (.I 4 (Au.c f))
 let⟨x9,x5⟩:=EL p (b:=4) [(.i .u8 0),(.s []),(.n 0),.sn] (c:=Au.c f) xB xA B B
 have xI:xu.Ap r 3=A (Z AF.c f.A3):=Ay R 3;have xk:=J.ext x;let⟨I,v,xW,xj,y,xe⟩:=gk xk f.A3 ((kv (b:={l with AS:=l.AS.set w q}) (c:=l) (λ_=>B) f.A3).t d.hv) d.hl
 have xH:v.Ap r 0=A (.i .u8 f.op):=Ay ((y.M xh).t R) 0;have xM:DO e j q=(Ai.AJ ⟨e.Ac,e.Am,e.round,e.AA+1⟩ k {l with AS:=l.AS.set w q}):=by unfold DO Ai.AJ;rw[d.hi,d.hj];simp only[AdR,DK d.hc]
 have xi:Lv p h:=by grind
 have xn:B_ i p (DO e j q) s.pc (ES u o U):=⟨xD,s,by grind,B,xc.1⟩;have xo:=(xn.V x).V y;refine⟨v,h,r,I,?_,xo.sub ?_,?_,xj,(y.M (x.lv xi)).t ((x.M xi).t xf),(y.M xh).t R,λm g=> ?_⟩
 .rw[Ml.1];simp only[QZ,Ml.2.1,H (CB xy),H (Fa d.hn), *];by_cases M:f.op=8;.rw[A0 (.i M)];simp only[↓Q,↓QT,M]
  .by_cases P:f.op=9;.rw[A0 (.j P)];simp only[↓Q,↓QT,AdM,Int.reduceEq,P]
   .rw[A2 (by grind)];simp only[↓Q,↓QT,AdM,M,P]
 .intro m g;rcases g with(g|rfl|rfl)|g;.grind
  .grind
  .grind
  .exact .j ⟨λxC=>g (xe m xC),xj.Cz g⟩
 .intro m g;refine xe m ?_;rcases g with g|rfl|rfl;.grind
  .grind
  .grind
 .grind
variable{d e:D}
def FB.of{a b:Ai}{c:D}(f:FB a c d e)(g:b.Ac=a.Ac):FB b c d e:=by unfold FB at f⊢;grind
variable{a:D}
def FB.ON{b:Ai}{f:D}(k:FB b a e f)(g:A5)(n:K):FB (DO b g n) a e f:=by
 let⟨i,m,h,c,l,d⟩:=k
 by_cases j:g.FE.n=a;.subst j;exact⟨_,_,h,Aex (AdN.1 c).1,by rw[DK c];grind,d⟩
 .exact⟨i,m,h,by show(b.Ac.set _ _)[a]? =_;grind,l,d⟩
def IY.ON{a:Ai}{d:Bz}(i:IY a d)(c:A5)(b:K):IY (DO a c b) d:=by
 let⟨j,k,e,f,g,h⟩:=i
 exact⟨j,k,e,f,g,h.ON c b⟩
def h6{b:Ai}{a:ED}(c:a.op=1\/a.op=3\/a.op=4):(Eh b a).1.Ac=b.Ac:=by
 unfold Eh;split;.rfl
 .have d:(BE b.Am a).F1=[]:=by
   unfold BE
   grind
  grind
def rT(a:Ai)(d:A5)(c:Au)(b:C N):(E7 a d c b).1.Ac=a.Ac:=by
 unfold E7
 repeat' split
 all_goals first|rfl|exact h6 (.i B)|exact h6 (.j (.i B))|exact h6 (.inr (.inr rfl))
variable{h:D}
def ZW{d:Ai}{b:A5}{j:D}{g:AK}{k:Ab}{e:Au}{a:C N}(f:RV i d b j h g k e a)(c:K)(o:d.AA≠6000):
  F6 i.l d b c=if e.op=8\/e.op=9 then Nb i.l (DO d b c) b e (Cu a 0)
   else if e.op=11 then((Eh (DO d b c) ⟨2,Cu a 0,Cu a 1,Cu a 2,0⟩).1,(Eh (DO d b c) ⟨2,Cu a 0,Cu a 1,Cu a 2,0⟩).2.2)
   else if e.op=5 then((DO d b c).AD j h (FZ (Cu a 0) (Cu a 1)).1.n (FZ (Cu a 0) (Cu a 1)).2,0)
   else if(E7 (DO d b c) b e a).2.2≠0 then((E7 (DO d b c) b e a).1,(E7 (DO d b c) b e a).2.2)else((E7 (DO d b c) b e a).1.AD j h 0 (E7 (DO d b c) b e a).2.1,0):=by
 let⟨p,q,r⟩:=f.ha
 have l:(DO d b c).at j={g with AS:=g.AS.set h c}:=by refine DK ?_;unfold DO;rw[f.hi,f.hj];simp only[AdR,DK f.hc];exact Aex (AdN.1 f.hc).1
 have m:F4 i.l {g with AS:=g.AS.set h c}=k:=by unfold F4;grind
 have n:e.A3.m (Bs {g with AS:=g.AS.set h c})=a:=(kw f.hv).s
 unfold F6
 rw[Ad o]
 simp only[f.hi,f.hj,AdR,l,m,f.hn,Aeg,n]
def gd{j:CI}{W:G}{d:Ai}{t:D->T}{q:T->Prop}(xi:B_ j W d t q)(xV:Li j){b:A5}{xQ xe:D}{xn:AK}{xY:Ab}{g:Au}{E:C N}(e:RV j d b xQ xe xn xY g E)(f:K):∃xt xg,W9 (pos 53) [.p j.x 0,.S (A5.c b),.n f] W=A (.n (F6 j.l d b f).2,xt)/\B_ j xt (F6 j.l d b f).1 xg q/\Bo q W xt/\∀r,r<d.Ac.l->xg r=t r:=by
 by_cases xP:d.AA=6000
 .let⟨o,xM,yB,yx,xI,yu,yD,yE⟩:=box W (.I 2 (A5.c b))
  have xJ:=xi.ext xI;have yr:=xJ;obtain⟨yG,yp,xX,rfl,yv⟩:=xJ;have yH:xM.Ap j.x 5=A (.n d.AA):=Ay xX.M 5;have x7:F6 j.l d b f=(d,5):=by unfold F6;grind
  refine⟨xM,yp.pc,AZ B B ?_,by grind,λa h=>xI.M (xi.C4 h),P⟩;rw[x7,Ml.1];simp only[QY, *]
 let⟨xb,o,xh,U,w,c⟩:=Aam xi e f xP
 have yz:(DO d b f).Ac.l=d.Ac.l:=Aed;have yn:=BB c.gq;have ym:xb.AL xh 0 4=A (Au.c g):=BB c.gn;have Z:∀a,q a->(q a\/a=o\/a=xh)\/¬As U a:=by grind
 let⟨k,xd⟩:=Bb (b:=E) (a:=0) e.Ld
 let⟨yf,xy,yl⟩:=c.o.rd xd
 have xy:AR 2 [U,.n 0]=A (.p yf 0):=xy;have xG:=J0 xd;have x6:(DO d b f).Ac[xQ]? =A {xn with AS:=xn.AS.set xe f}:=by unfold DO;rw[e.hi,e.hj];simp only[AdR,DK e.hc];exact Aex (AdN.1 e.hc).1
 rw[ZW e f xP];by_cases M:g.op=8\/g.op=9
 .rw[Af M];rw[A0 M]at w;let⟨⟨yh,x9,x8⟩,yA,yw⟩:=e.call M
  let⟨y,xg,xA,v,I,ys⟩:=rc c.H xV e.hi e.hj g k x6 (e:=yh) x9 x8 (by grind) (by grind)
  rw[xG];refine⟨y,xg,AZ B B ?_,v.sub Z,λa h=>(I a (Z a h)).t (c.T a h),P⟩;rw[w,Ml.2.2.2.1];simp only[QY, *]
 rw[Ad M];rw[A2 M]at w;by_cases V:g.op=11
 .rw[Af V];let⟨yq,m,xF,Y,X,xO,yd,ye,yc⟩:=e.st V
  rw[xd]at Y;cases Y;let⟨xz,S,xT⟩:=c.o.rd X
  let⟨yg,xR,yF⟩:=c.o.rd xO
  have S:AR 2 [U,.n 1]=A (.p xz 2):=S;have xR:AR 2 [U,.n 2]=A (.p yg 4):=xR;rw[xG,J0 X,J0 xO];have yt:Cb [(.i .u8 0),(.i .u8 0),(.n 0),(.i .u8 0),(.n 0),(.i .u8 0),(.n 0),(.n 0)] [(0,1),(1,2),(3,2),(5,2)] [(.i .u8 2),.S (N.c k),.S (N.c m),.S (N.c xF)]=A (.S (ED.c8 ⟨2,k,m,xF,0⟩)):=B;let⟨y,xA,v,I⟩:=gp c.H e.Fj ⟨2,k,m,xF,0⟩ P yd ye (λyo yb=>(yc yo yb).ON b f)
  refine⟨y,t,AZ B B ?_,v.sub Z,λa h=>(I a P).t (c.T a h),P⟩;rw[w,Ml.2.2.2.1];simp only[QY, *]
 rw[Ad V];by_cases J:g.op=5
 .rw[Af J];let⟨yq,m,Y,X,ya,yC,xc⟩:=e.sw J
  rw[xd]at Y;cases Y;let⟨xz,S,xT⟩:=c.o.rd X
  have S:AR 2 [U,.n 1]=A (.p xz 2):=S;rw[xG,J0 X];have x5:=rd k m ya;let⟨yk,xu,xx,xw,u,xs,xS,xf⟩:=box xb (.I 2 [.i .u8 0,.n 0])
  have xH:=Jp xb xx xw;let⟨z,xD,xC,x⟩:=Gy xs (FZ k m).2
  have xj:=c.H.V u;have xa:B_ j z (DO d b f) t (ES (λa=>(q a\/a=o\/a=xh)\/¬As U a) xb xu):=by rw[x];exact xj.VO P _
  obtain⟨r,yy⟩:∃r:D,(FZ k m).1=r:=⟨(FZ k m).1.n,by omega⟩;have xN:(FZ k m).1.n=r:=by omega
  rw[xN]at xc;let⟨x1,xZ,yj,x0,xE,xm,xv,x2,x3,x4,xo,xp,xq,R,xr,xk,xK⟩:=xa.AD (xc.ON b f) (FZ k m).2
  have xl:z.Ap o 1=A (.n xe):=by have:=c.H.C4 (c:=o) P;rw[Ay (f:=2) (c:=A5.c b) (by rw[x,AN,Ad P];exact(u.M this).t c.gq)];show A (F.n b.Ax)=_;rw[e.hj]
  have R:AR 2 [xE,.n (FZ k m).1]=A (.p xm (r*2)):=by grind
  rw[xN];refine⟨xv,t,AZ B B ?_,xk.sub P,λa h=>(xK a P).t ?_,λ_ _=>B⟩;.rw[w,Ml.2.2.2.1];simp only[↓xH,↓Q,↓QT,AdM,Int.reduceEq,J,↓H xy,↓H yl,↓H S,↓H xT,↓x5.H B,↓H xD,↓H xo,↓H xl,↓H xp,↓H xq,↓H xC,↓H R,↓H xr]
  .have xB:=c.H.C4 (Z a h);rw[x,AN,Ad (λd=>xf (by grind))];exact(u.M xB).t (c.T a h)
 rw[Ad J];let⟨xU,xc⟩:=e.aG M V J
 let⟨y,xA,v,I⟩:=re c.H c.ap e.Fj c.o (j:=b) (d:=g) xU
 let⟨yk,xu,xx,xw,u,xs,xS,xf⟩:=box y (.I 2 [.i .u8 0,.n 0])
 have xH:=Jp y xx xw;let⟨z,xD,xC,x⟩:=Gy xs (E7 (DO d b f) b g E).2.1
 have xj:=v.V u;have xa:B_ j z (E7 (DO d b f) b g E).1 t (ES (λa=>q a\/a=o\/a=xh) y xu):=by rw[x];exact xj.VO (.j ⟨xf,xS⟩) _
 have xW:∀a,q a->z.M a=W.M a:=λa h=>by have xB:=v.C4 (.i h);rw[x,AN,Ad (λd=>xf (by grind))];exact(u.M xB).t ((I a P).t (c.T a h))
 by_cases xL:(E7 (DO d b f) b g E).2.2=0
 .rw[Ad (by grind)];let⟨x1,xZ,yj,x0,xE,xm,xv,x2,x3,x4,xo,xp,xq,R,xr,xk,xK⟩:=xa.AD ((xc.ON b f).of (rT _ b g E)) (E7 (DO d b f) b g E).2.1
  have xl:z.Ap o 1=A (.n xe):=by have yi:=v.C4 (c:=o) P;rw[Ay (f:=2) (c:=A5.c b) (by rw[x,AN,Ad P];exact(u.M yi).t ((I o P).t c.gq))];show A (F.n b.Ax)=_;rw[e.hj]
  have R:AR 2 [xE,.n 0]=A (.p xm 0):=R;refine⟨xv,t,AZ B B ?_,xk.sub P,P,P⟩;rw[w,Ml.2.2.2.1];simp only[↓xH,↓Q,↓QT,AdM,V,J,Ml.2.2.1,↓H yn,↓H ym,↓H xA,↓H xD,xL,↓H xo,↓H xl,↓H xp,↓H xq,↓H xC,↓H R,↓H xr,Ml.2.2.2.2]
 .rw[Af xL];refine⟨z,t,AZ B B ?_,xa.sub P,xW,P⟩;rw[w,Ml.2.2.2.1];simp only[QY,Ml.2.2.1,Ml.2.2.2.2, *]
def P3(e:C Ab)(c:Ab)(a:AF)(f:D):Prop:=(a.Ax= -1/\0<=a.AD/\a.AD<c.An)\/∃(b:D)(d:Au),a.Ax=(b:K)/\b<f/\c.Av[b]? =A d/\0<=a.AD/\a.AD<C7 e d
structure H2(b:C Ab)(c:Ab)(e:D)(a:Au):Prop where
 A7:(a.A3.l:K)=Fy b a
 A3:∀d∈a.A3,P3 b c d e
 num:a.op=2->a.n=0\/a.n=1
 B6:a.op=1->-1000000000<=a.n/\a.n<=1000000000
structure kM(c:C Ab)(a:Ab):Prop where
 An:1<=a.An/\a.An<=12
 Av:a.Av.l<=400
 A_:a.A_.l<=12/\(a.A_.l=0\/(a.A_.l:K)=a.An)
 Bk:a.Bk.l<=12
 Ax:∀(d:D) e,a.Av[d]? =A e->H2 c a d e
 nx:∀b∈a.A_,P3 c a b a.Av.l
 ex:∀b∈a.Bk,P3 c a b a.Av.l
structure BD(c:C Ab):Prop where
 A7:c.l<=60
 Bc:∀(b:D) a,c[b]? =A a->kM c a
 XL:∀(b:D) a,c[b]? =A a->CH c a.A8=(b:K)
 K_:∃(b:D)(a:Ab),CH c GN=(b:K)/\c[b]? =A a/\a.A_.l=0
variable{c:Ab}
def u0{f:C _}{b:AF}{g:D}(a:K0 f c b g=L):P3 f c b g:=by
 unfold K0 BK at a;split at a;.rename_i h;simp only[AdO,AdV]at a;exact .i ⟨h,by omega,by omega⟩
 .simp only[AdO,AdV]at a
  let⟨j,d⟩:=a
  cases e:c.Av[b.Ax.n]?with
  |none=>grind
  |some i=>rw[e]at d;simp only[AdO,AdV]at d;exact .j ⟨b.Ax.n,i,by omega,by omega,e,by omega,by omega⟩
def YL{d:C _}{b:Ab}{c:C _}(f:Gl d b c e=L):∀a∈c,P3 d b a e:=λa g=>u0 (Aei.1 f a g)
def ik{g:C _}{f:Ab}:∀{e:C _}{d:D},Nt g f e d=L->∀(a:D) b,e[a]? =A b->OC g f (d+a) b=L
 |[],_,_,a,b,h=>by grind
 |i::e,d,c,a,b,h=>by
  unfold Nt at c
  rw[AdO]at c
  cases a with
  |zero=>grind
  |succ a=>have:=ik c.2 a b (by grind);grind
def uG{f:C Ab}{d:Ab}{g:Au}(c:OC f d e g=L):H2 f d e g:=by
 unfold OC at c;simp only[AdO,AdV]at c;let⟨⟨h,a⟩,i⟩:=c
 unfold GX at a;split at a;.grind
 .refine⟨h.s,YL i,λb=> ?_,λb=> ?_⟩;.rw[Ad (by omega),Af b]at a;simp only[AeS,AdV]at a;grind
  .rw[Af b]at a;unfold BK at a;simp only[AdO,AdV]at a;grind
def jv:∀{e:C _}{c:K},0<=c->ND e c=L->∀a∈e,(a.Av.l:K)<=400/\a.An<=12/\a.A_.l<=12/\a.Bk.l<=12
 |[],_,_,_,a,b=>by grind
 |j::i,c,h,d,a,b=>by
  unfold ND PZ at d;simp only[AdO,Bool.not_eq_true',Bool.or_eq_false_iff,AfE]at d;let⟨g,f⟩:=d
  rcases Ad6.1 b with rfl|b;.grind
  .exact jv (by omega) f a b
def io{f:C _}:∀{e:C Ab}{d:D},Lc f e d=L->∀(a:D) b,e[a]? =A b->CH f b.A8=(d+a:D)
 |[],_,_,a,b,g=>by grind
 |h::e,d,c,a,b,g=>by
  unfold Lc at c
  rw[AdO,AdV]at c
  cases a with
  |zero=>grind
  |succ a=>have:=io c.2 a b (by grind);omega
def HU{a:C _}(c:D5 a=0):BD a:=by
 let⟨u,v,r,s,t⟩:=hW c
 unfold D5 at c;by_cases o:(60:K)<a.l;.grind
 rw[Ad o]at c;by_cases d:ND a 0=Aa;.grind
 rw[Ad d]at c;by_cases e:(a.all λb=>KA a b)=Aa;.grind
 rw[Ad e]at c;by_cases i:Lc a a 0=Aa;.grind
 have d:ND a 0=L:=by grind
 have e:(a.all λb=>KA a b)=L:=by grind
 have i:Lc a a 0=L:=by grind
 refine⟨by omega,λh b f=> ?_,λh b f=> ?_,⟨u,v,r,s,t⟩⟩
 .have j:=AdU f;let⟨F,x,y,z⟩:=jv Om d b j
  have g:=Aei.1 e b j;unfold KA at g;simp only[AdO,AeS,AdV]at g;let⟨⟨⟨_,k⟩,E⟩,l,m,n⟩:=g
  refine⟨⟨k,x⟩,by omega,⟨y,?_⟩,z,λq w p=> ?_,YL m,YL n⟩;.grind
  .have:=ik l q w p;rw[Ad2]at this;exact uG this
 .have:=io i h b f;omega
def H2.call{b:C Ab}{h:Ab}{a:Au}(g:H2 b h k a)(j:a.op=8\/a.op=9):∃(e:D)(c:Ab),CH b a.A8=e/\b[e]? =A c/\a.A3.l=c.An/\(0<c.A_.l↔a.op=9)/\C7 b a=c.Bk.l:=by
 have d:=g.A7
 unfold Fy at d
 rw[Ad (by omega),Ad (by omega),Ad (by omega),Ad (by omega),Af j]at d
 unfold J1 at d
 cases f:b[(CH b a.A8).n]?with
 |none=>grind
 |some c=>
  rw[f]at d;simp only[]at d;by_cases i:0<=CH b a.A8/\(Ao (0<c.A_.l)=Ao (a.op=9))
  .rw[Af i]at d;refine⟨(CH b a.A8).n,c,by omega,f,d,?_,?_⟩;.grind
   .unfold C7 Pc;grind
  grind
def H2.Ld{f:C _}{a:Au}(b:H2 f c e a)(g:a.op=1\/a.op=2\/a.op=3\/a.op=10\/a.op=13\/a.op=14):a.A3.l=1:=by have d:=b.A7;unfold Fy at d;omega
def H2.M3{f:C _}{a:Au}(b:H2 f c e a)(g:a.op=5\/a.op=6\/a.op=7\/a.op=12):a.A3.l=2:=by have d:=b.A7;unfold Fy at d;omega
def H2.kg{f:C _}{a:Au}(b:H2 f c e a)(g:a.op=11):a.A3.l=3:=by have d:=b.A7;unfold Fy at d;omega
def H2.Rz{f:C _}{a:Au}(b:H2 f c e a)(g:a.op=4):a.A3.l=Du a.A8/\0<Du a.A8:=by have d:=b.A7;unfold Fy at d;omega
def uW(a:BN):Du a<=2:=by unfold Du;omega
def H2.op{f:C _}{a:Au}(b:H2 f c e a):1<=a.op/\a.op<=14:=by
 have d:=b.A7;by_cases g:1<=a.op/\a.op<=14;.grind
 .unfold Fy at d;omega
def H2.some{c:C _}(d:BD c){f:Ab}{m:D}{a:Au}(b:H2 c f m a):1<=a.A3.l/\a.A3.l<=12:=by
 let⟨n,o⟩:=b.op
 by_cases k:a.op=8\/a.op=9
 .let⟨e,g,_,l,p,_⟩:=b.call k
  have:=(d.Bc e g l).An;omega
 by_cases j:a.op=4;.have:=b.Rz j;have:=uW a.A8;omega
 by_cases h:a.op=11;.have:=b.kg h;omega
 by_cases i:a.op=5\/a.op=6\/a.op=7\/a.op=12;.have:=b.M3 i;omega
 .have:=b.Ld (by omega);omega
def Rs{a:C Ab}(c:BD a)(b:Au):0<=C7 a b/\C7 a b<=12:=by
 unfold C7;split;.omega
 .split
  .split
   .unfold Pc;split;.rename_i d e;have:=(c.Bc _ d e).Bk;omega
    omega
   omega
  omega
def YU{c:C _}(a:BD c){b:Ab}(f:c[e]? =A b):RT c b:=by have d:=a.Bc e b f;have:=a.A7;exact⟨by omega,by have:=d.An;omega,by have:=d.Av;omega,λg h=>by have:=Rs a g;omega⟩
def Zu(a b:Ah):HH 1 (.b a) (.b b)=A (a==b):=by cases a<;>cases b<;>rfl
def nN(a b:BA):FT Aa [0,1,1] [.S (BA.c a),.S (BA.c b)]=A (.b (Ao (a=b))):=by
 have:Gp [0,1,1] (BA.c a) (BA.c b)=A (Ao (a=b)):=by
  show JO (HH 0 (.n a.Az) (.n b.Az)) (JO (HH 1 (.b a.next) (.b b.next)) (JO (HH 1 (.b a.is) (.b b.is)) (A L)))=_;rw[Zv,Zu,Zu,T5,T5,T5];congr 1;let⟨c,d,e⟩:=a
  let⟨f,g,h⟩:=b
  by_cases i:c=f<;>cases d<;>cases g<;>cases e<;>cases h<;>simp[]
 rw[e3,this];rfl
def B_.NI{c:CI}{f:G}{d:Ai}{n:D->T}{h:T->Prop}{e:T->Bm}{b:Lm}(q:EB e f c.l c.es c.k c.x d b)(u:b.pc=n)(s:∀i,h i->Lv f i/\e i=.C5){r:AK}{o:Bm}(t:d.Ac[a]? =A r)(m:o.of a)(j:EM e f g o)(p:C6 e g a (b.pc a) l (b.pv a) (b.ov a) (b.fv a) (b.gv a) (b.og a) (b.gg a)):B_ c g (d.AJ a l) n h/\Bo h f g:=
 have k:=j.Fp (by intro d;subst d;exact m) s
 ⟨⟨e,b,q.NI t m j p,u,k.1⟩,k.2⟩
variable{b:AK}{o:Ai}
def fX{y:CI}{j:G}{r:D->T}{l:T->Prop}(h:B_ y j o r l){f:D}(k:o.Ac[e]? =A b)(Q:f<b.An.l)(a:N):∃p,W9 (pos 200) [.p (r e) 0,.n f,.S (N.c a)] j=A (.b (FG b f a).2,p)/\B_ y p (o.AJ e (FG b f a).1) r l/\Bo l j p:=by
 let⟨Z,E,V,U,g,I,X,Y⟩:=box j (.I 2 (N.c a))
 have v:=h.ext g;have w:=v;obtain⟨xc,xf,z,rfl,P⟩:=v;have u:=z.BC e b k;have xd:=BB I;have xa:=Ay u.M 4;let⟨s,R⟩:=Bb Q
 let⟨S,M,W,_,xb,xe,F,H⟩:=u.Yi R a
 have J:(b.An[f]?).g AO=s:=by grind
 have d:=MD a;have i:=MD s;unfold FG;rw[J];by_cases m:a.Ak=0;.rw[Af (.i m),NC k];rw[A0 m]at d;refine⟨E,AZ B B ?_,w,λq c=>g.M (h.C4 c)⟩;rw[Xs.1];simp only[QY,d.H B,QB, *]
 .rw[A2 m]at d;by_cases n:s.Ak=0;.rw[Ad (by grind)];rw[A0 n]at i;have x:=B_.NI z B P k (o:=.An e) B H F;refine⟨M,AZ B B ?_,x.1,λq c=>(x.2 q c).t (g.M (h.C4 c))⟩;rw[Xs.1];simp only[QY,d.H B,QB,i.H B,Xs.2, *]
  .rw[Af (.j n),NC k];rw[A2 n]at i;refine⟨E,AZ B B ?_,w,λq c=>g.M (h.C4 c)⟩;rw[Xs.1];simp only[QY,d.H B,QB,i.H B, *]
def pT{x:CI}{q:G}{X:D->T}{w:T->Prop}(s:B_ x q o X w){g b:D}{k f:AK}(U:o.Ac[g]? =A k)(e:k.AP=a)(xn:k.Ax=d)(i:o.Ac[a]? =A f){V:C BA}{W:C N}(xk:f.A4[d]? =A V)(xK:f.AG[d]? =A W)(xI:b<V.l)(xJ:b<W.l)(l:N)(c:BA):∃S,W9 (pos 201) [.p x.x 0,.p (X g) 0,.n b,.S (N.c l),.S (BA.c c)] q=A (.AB [.b (CZ f d b l c).2.1,.n (CZ f d b l c).2.2],S)/\B_ x S (o.AJ a (CZ f d b l c).1) X w/\Bo w q S:=by
 let⟨Y,E,xL,xG,xs,xA,xR,yb⟩:=box q (.I 2 (N.c l))
 let⟨xo,h,xM,xH,xc,xB,ya,yc⟩:=box E (.I 3 (BA.c c))
 have x0:=Ko q l xL xG;have x1:∀(xe:F->G->R),bl (.p E.next 0) (E.V (.I (Bq (F.I (.S (BA.c c)))) (F.I (.S (BA.c c))))) xe=xe (.p xo 0) h:=Dy E (.I 3 (BA.c c)) xM xH;have r:=xs.AI xc;have xd:=s.ext r;have xu:=s.V r;obtain⟨xW,n,u,rfl,xD⟩:=xu;have xt:ES w q h Y:=by grind
 have xb:=u.BC g k U;have Z:=u.BC a f i;let⟨x6,xQ,xX⟩:=u.Lf i
 have xZ:h.Ap x.x 2=A n.cv:=Ay u.M 2;have xw:h.Ap (n.pc g) 1=A (.n a):=by rw[Ay xb.M];show A (F.n k.AP)=_;rw[e]
 have xx:h.Ap (n.pc g) 2=A (.n d):=by rw[Ay xb.M];show A (F.n k.Ax)=_;rw[xn]
 have xv:h.Ap (n.pc a) 8=A (n.gv a):=Ay Z.M 8;let⟨p,xl⟩:=Bb xI
 let⟨x3,y,xj,xO,xT,xP,xU,xp,yh,xq,xf⟩:=Z.w8 xk xl c
 have xV:h.AL xo 0 3=A (BA.c c):=BB xB;have P:=nN p c;have xY:Ek f d b=p:=by unfold Ek;rw[xk];show(V[b]?).g EQ=p;rw[xl];rfl
 unfold CZ;rw[xY];by_cases z:p=c;.rw[Af z,NC i];rw[A0 z]at P;refine⟨h,AZ B B ?_,xd,λa e=>r.M (s.C4 e)⟩;rw[r201];simp only[↓x0,↓x1,↓Q,↓H xZ,↓H xw,↓H xQ,↓H xX,↓H xv,↓H xx,↓H xO,↓H xT,↓H xP,↓H xU,↓H xV,↓H P]
 .rw[Ad z];rw[A2 z]at P;by_cases M:p.is=L
  .rw[Af M,NC i];have xz:Bl 2 [.p y (b*3)]=A (.p y (b*3+2)):=by rw[EG]
   rw[M]at xp;refine⟨h,AZ B B ?_,xd,λa e=>r.M (s.C4 e)⟩;rw[r201];simp only[QY, *]
  .rw[Ad M];have xy:p.is=Aa:=by grind
   have xz:Bl 2 [.p y (b*3)]=A (.p y (b*3+2)):=by rw[EG]
   rw[xy]at xp;have J:=u.NI i (t:=.B1 a d) B xf xq;have I:=xf.Fp (by grind) xD;have xa:=J.BC a _ (Jf i);have x2:=xa.M;let⟨yi,xN⟩:=Bb xJ
   let⟨x4,x5,xC,x8,yd,x9,ye,yg,xr,xg⟩:=xa.PP (v:=W) (a:=d) (b:=b) xK xN l
   have xi:=J.NI (Jf i) (t:=.AD a d) B xg xr;rw[LX]at xi;have xh:=xg.Fp (by grind) I.1;obtain⟨v,xE,xF⟩:∃v,(o.AJ a {f with A4:=CP f.A4 d b c}).Ac[g]? =A v/\v.Ax=k.Ax:=by
    by_cases xm:g=a;.subst xm;rw[U]at i;cases i;exact⟨_,Jf U,B⟩
    .exact⟨k,by show(o.Ac.set _ _)[g]? =_;rw[AeJ (λxS=>xm xS.s)];grind,B⟩
   have x7:xj.Ap (n.pc g) 2=A (.n d):=by rw[Ay (J.BC g v xE).M];show A (F.n v.Ax)=_;rw[xF,xn]
   have yf:xj.AL Y 0 2=A (N.c l):=BB ((I.2 Y xt).t ((xc.M xR).t xA));refine⟨xC,AZ B B ?_,⟨xW,n,xi,B,λa e=>xh.1 a (.i e)⟩,λa e=>(xh.2 a (.i e)).t ((I.2 a (.i e)).t (r.M (s.C4 e)))⟩;rw[r201];simp only[QY,vy, *]
structure Dw(e:C Ab)(f:D)(a:Ab)(b:AK):Prop where
 ha:b.Bc=(f:K)
 hb:e[f]? =A a
 An:(b.An.l:K)=a.An
 AG:b.AG.l=a.Av.l
 AS:b.AS.l=a.Av.l
 A4:b.A4.l=a.Av.l
 AD:∀(c:D) d h,a.Av[c]? =A d->b.AG[c]? =A h->(h.l:K)=C7 e d
 B1:∀(c:D) d g,a.Av[c]? =A d->b.A4[c]? =A g->(g.l:K)=C7 e d
def Dw.Ca{d:C _}{b:Ab}{c:AK}(a:Dw d e b c):F4 d c=b:=by unfold F4;rw[a.ha,AdR,a.hb];rfl
structure DQ(a b:AK):Prop where
 Bc:b.Bc=a.Bc
 AP:b.AP=a.AP
 Ax:b.Ax=a.Ax
 Az:b.Az=a.Az
 An:b.An.l=a.An.l
 AG:b.AG.m List.length=a.AG.m List.length
 AS:b.AS.l=a.AS.l
 A4:b.A4.m List.length=a.A4.m List.length
def DQ.refl(a:AK):DQ a a:=⟨B,B,B,B,B,B,B,B⟩
def DQ.AI{c d e:AK}(a:DQ c d)(b:DQ d e):DQ c e:=⟨b.Bc.t a.Bc,b.AP.t a.AP,b.Ax.t a.Ax,b.Az.t a.Az,b.An.t a.An,b.AG.t a.AG,b.AS.t a.AS,b.A4.t a.A4⟩
def Va{f:Type}{e c:C (C f)}(g:c.m List.length=e.m List.length){b:C f}(h:c[a]? =A b):∃d,e[a]? =A d/\b.l=d.l:=by
 have:(c.m List.length)[a]? =A b.l:=by grind
 grind
def TJ{c:Type}(b:C (C c))(a e:D)(f:c):(CP b a e f).m List.length=b.m List.length:=by
 unfold CP;split
 .rename_i i h;refine AeP λd=> ?_;rw[Aeo,Aeo];by_cases g:a=d;.grind
  .grind
 grind
def Dw.En{n:C Ab}{j:D}{k:Ab}{m:AK}(a:Dw n j k l)(b:DQ l m):Dw n j k m where
 ha:=b.Bc.t a.ha
 hb:=a.hb
 An:=by rw[b.An];exact a.An
 AG:=by have:=AdW List.length b.AG;rw[Ad9,Ad9]at this;exact this.t a.AG
 AS:=b.AS.t a.AS
 A4:=by have:=AdW List.length b.A4;rw[Ad9,Ad9]at this;exact this.t a.A4
 AD:=λg h p e c=>by
  let⟨i,f,d⟩:=Va b.AG c
  rw[d];exact a.AD g h i e f
 B1:=λg h o e c=>by
  let⟨i,f,d⟩:=Va b.A4 c
  rw[d];exact a.B1 g h i e f
variable{q:D}
def Dw.Eo{k:C Ab}{m:D}(a:Dw k m c b){d:AF}(n:P3 k c d q):∃s,H0 b d=A s:=by
 unfold H0;rcases n with⟨e,f,g⟩|⟨j,r,e,f,g,o,t⟩;.rw[Af (by omega),Af f];have:=a.An;exact Bb (by omega)
 .rw[Ad (by omega),Af o];let⟨p,h⟩:=Bb (b:=b.AG) (a:=j) (by rw[a.AG];grind)
  have:=a.AD j r p g h;rw[e,AdR,h];exact Bb (by omega)
def Dw.CQ{e:C _}{d:Ab}{a:AK}(g:Dw e h d a){c:C AF}{l:D}(i:∀b∈c,P3 e d b l):Kh a c=A (c.m (Bs a)):=by
 induction c with
 |nil=>rfl
 |cons b f k=>
  let⟨m,j⟩:=g.Eo (i b (Aey ..))
  unfold Kh;rw[j,k P];show A (m::f.m (Bs a))=A (Bs a b::f.m (Bs a));unfold Bs;grind
def OP{a:AK}{b:AF}{c:N}(d:H0 a b=A c):Bs a b=c:=by unfold Bs;grind
structure Gc(g:C Ab)(h:Ai)(i:D)(b:AK)(c f:D)(d:AK)(e:Ab)(a:Au):Prop where
 AP:b.AP=(c:K)
 Ax:b.Ax=(f:K)
 lt:c<i
 Cc:h.Ac[c]? =A d
 GZ:∃j:D,Dw g j e d
 hn:e.Av[f]? =A a
 op:a.op=8\/a.op=9
 CH:CH g a.A8=b.Bc
structure L7(d:Ai)(e:D)(a:AK)(c:D)(b:AK):Prop where
 next:a.next=(c:K)
 lt:e<c
 Cc:d.Ac[c]? =A b
 Bc:b.Bc=a.Bc
 AP:b.AP=a.AP
 Ax:b.Ax=a.Ax
 Az:b.Az=a.Az+1
structure CF(f:C Ab)(c:Ai):Prop where
 A7:c.Ac.l<=400
 BC:∀(b:D) a,c.Ac[b]? =A a->∃d e,Dw f d e a
 up:∀(b:D) a,c.Ac[b]? =A a->a.AP= -1\/∃k h d e j,Gc f c b a k h d e j
 next:∀(b:D) a,c.Ac[b]? =A a->a.next= -1\/∃i g,L7 c b a i g
 Az:∀(b:D) a,c.Ac[b]? =A a->0<=a.Az/\a.Az<=(b:K)
 K_:∀(b:D) a,c.Ac[b]? =A a->a.AP= -1->b=0
def CF.AJ{u:C _}{n:Ai}(i:CF u n){m:AK}(h:n.Ac[q]? =A l)(f:DQ l m)(z:m.next=l.next):CF u (n.AJ q m)where
 A7:=by show(n.Ac.set q m).l<=400;rw[Aed];exact i.A7
 BC:=λe g d=>by
  rcases Ik h d with⟨rfl,rfl⟩|⟨_,d⟩;.let⟨p,k,v⟩:=i.BC e l h;exact⟨p,k,v.En f⟩
  .exact i.BC e g d
 K_:=λe g d c=>by
  rcases Ik h d with⟨rfl,rfl⟩|⟨_,d⟩;.exact i.K_ e l h (f.AP.s.t c)
  .exact i.K_ e g d c
 up:=λe g d=>by
  have t:∀j:AK,(j.AP= -1\/∃o r p k s,Gc u n e j o r p k s)->(j.AP= -1\/∃o r p k s,Gc u (n.AJ q m) e j o r p k s):=by
   rintro j (c|⟨o,r,p,k,s,a⟩)
   .grind
   .right;by_cases x:o=q
    .subst x;have y:=Aew (a.Cc.s.t h);subst y;let⟨c,v⟩:=a.GZ
     exact⟨o,r,m,k,s,a.AP,a.Ax,a.lt,Jf h,⟨c,v.En f⟩,a.hn,a.op,a.CH⟩
    .exact⟨o,r,p,k,s,a.AP,a.Ax,a.lt,by show(n.Ac.set q m)[o]? =_;rw[AeJ Om];exact a.Cc,a.GZ,a.hn,a.op,a.CH⟩
  rcases Ik h d with⟨rfl,rfl⟩|⟨_,d⟩
  .rcases(t l (i.up e l h))with c|⟨o,r,p,k,s,a⟩;.exact .i (f.AP.t c)
   .exact .j ⟨o,r,p,k,s,f.AP.t a.AP,f.Ax.t a.Ax,a.lt,a.Cc,a.GZ,a.hn,a.op,a.CH.t f.Bc.s⟩
  .exact t g (i.up e g d)
 next:=λe g d=>by
  have t:∀j:AK,(j.next= -1\/∃c g,L7 n e j c g)->(j.next= -1\/∃c g,L7 (n.AJ q m) e j c g):=by
   rintro j (c|⟨c,w,b⟩)
   .grind
   .right;by_cases x:c=q;.subst x;have y:=Aew (b.Cc.s.t h);subst y;exact⟨c,m,b.next,b.lt,Jf h,f.Bc.t b.Bc,f.AP.t b.AP,f.Ax.t b.Ax,f.Az.t b.Az⟩
    .exact⟨c,w,b.next,b.lt,by show(n.Ac.set q m)[c]? =_;rw[AeJ Om];exact b.Cc,b.Bc,b.AP,b.Ax,b.Az⟩
  rcases Ik h d with⟨rfl,rfl⟩|⟨_,d⟩
  .rcases t l (i.next e l h)with c|⟨c,w,b⟩;.grind
   .exact .j ⟨c,w,z.t b.next,b.lt,b.Cc,b.Bc.t f.Bc.s,b.AP.t f.AP.s,b.Ax.t f.Ax.s,by rw[f.Az];exact b.Az⟩
  .exact t g (i.next e g d)
 Az:=λe g d=>by
  rcases Ik h d with⟨rfl,rfl⟩|⟨_,d⟩;.rw[f.Az];exact i.Az e l h
  .exact i.Az e g d
def gw(a:AK)(b:D)(c:N):DQ a (FG a b c).1/\(FG a b c).1.next=a.next:=by
 unfold FG;split;.exact⟨DQ.refl a,B⟩
 .exact⟨⟨B,B,B,B,Aed,B,B,B⟩,B⟩
def ME(c:AF->N)(d:C AF)(a:AK):∀b,DQ a (Dc c d a b).1/\(Dc c d a b).1.next=a.next
 |0=>⟨DQ.refl a,B⟩
 |b+1=>by
  have e:=ME c d a b;unfold Dc;split;.rename_i f _;have:=gw (Dc c d a b).1 b (c f);exact⟨e.1.AI this.1,this.2.t e.2⟩
  omega
def YS(a:AK)(c d:D)(e:N)(b:BA):DQ a (CZ a c d e b).1/\(CZ a c d e b).1.next=a.next:=by
 unfold CZ;split;.exact⟨DQ.refl a,B⟩
 .split;.exact⟨DQ.refl a,B⟩
  .exact⟨⟨B,B,B,B,B,TJ _ _ _ _,B,TJ _ _ _ _⟩,B⟩
def Ub(e:D->N)(d:D)(c:BA)(a:AK):∀b,DQ a (Ce e d c a b).1/\(Ce e d c a b).1.next=a.next
 |0=>⟨DQ.refl a,B⟩
 |b+1=>by
  have f:=Ub e d c a b;unfold Ce;split;.grind
  .split;.grind
   .have:=YS (Ce e d c a b).1 d b (e b) c;exact⟨f.1.AI this.1,this.2.t f.2⟩
def YP{f:D->N}{d:D}{c:BA}{b:AK}{e:D}(g:(Ce f d c b e).2.2≠0):∀a,e<=a->Ce f d c b a=Ce f d c b e
 |0,h=>by grind
 |a+1,h=>by
  by_cases i:e=a+1;.grind
  .have j:=YP g a (by omega);rw[show Ce _ d c b _=_ from B];show(if(Ce _ d c b a).2.2≠0\/(f a).Ak=0 then Ce _ d c b a else _)=_;grind
def LR{e:Type}(a c:Ah)(b:F->Ae e):((Aj (A1 Aa (.b a)) (A (.b c)) (A AC)).b λd=>(DY [.b a,.b L,d]).b b)=b (.b (a||c)):=by cases a<;>rfl
theorem YR(b:D->N)(d:D)(c:BA)(e:AK)(a:D):Ce b d c e (a+1)=
 if(Ce b d c e a).2.2≠0\/(b a).Ak=0 then Ce b d c e a
 else if(CZ (Ce b d c e a).1 d a (b a) c).2.2≠0 then((Ce b d c e a).1,(Ce b d c e a).2.1,(CZ (Ce b d c e a).1 d a (b a) c).2.2)
 else((CZ (Ce b d c e a).1 d a (b a) c).1,(Ce b d c e a).2.1||(CZ (Ce b d c e a).1 d a (b a) c).2.1,0):=rfl
def Gc.Re{j:C Ab}(p:BD j){r:Ai}{v x:D}{n e:AK}{m:Ab}{c:Au}(b:Gc j r v n x a e m c){o:D}{f:Ab}(k:Dw j o f n):∃g h,e.A4[a]? =A g/\e.AG[a]? =A h/\g.l=f.Bk.l/\h.l=f.Bk.l/\c.A3.l=f.An/\(0<f.A_.l↔c.op=9):=by
 let⟨w,d⟩:=b.GZ
 let⟨q,y,z,s,E,F,G⟩:=((p.Bc w m d.hb).Ax a c b.hn).call b.op
 have I:=b.CH;have H:=k.ha;have:q=o:=by omega
 subst this;have:=Aew (s.s.t k.hb);subst this;have J:=(AdN.1 b.hn).1;let⟨g,t⟩:=Bb (b:=e.A4) (a:=a) (by rw[d.A4];grind)
 let⟨h,u⟩:=Bb (b:=e.AG) (a:=a) (by rw[d.AG];grind)
 have M:=d.B1 a c g b.hn t;have N:=d.AD a c h b.hn u;grind
def DQ.rh{a:AK}(g:DQ a b){c:D}{d:C BA}(f:a.A4[c]? =A d):∃e,b.A4[c]? =A e/\e.l=d.l:=by
 let⟨j,i,h⟩:=Va g.A4.s f
 grind
def DQ.XV{a:AK}(g:DQ a b){c:D}{d:C N}(f:a.AG[c]? =A d):∃e,b.AG[c]? =A e/\e.l=d.l:=by
 let⟨j,i,h⟩:=Va g.AG.s f
 grind
def RA{b:Ai}{c:D}{e d:AK}(g:b.Ac[a]? =A e)(f:c≠a):(b.AJ c d).Ac[a]? =A e:=by show(b.Ac.set c d)[a]? =_;grind
def dw{e:CI}(v:BD e.l){h:Ai}{n o:D}{f:AK}{w:Ab}{I:Au}(x:h.Ac[n]? =A l)(g:Gc e.l h n l o d f w I){H:D}{q:Ab}(s:Dw e.l H q l)(c:D->N)(b:BA)(M:a<q.Bk.l){m:G}{p:D->T}{j:T->Prop}(t:B_ e m (h.AJ o (Ce c d b f a).1) p j):∃i,W9 (pos 201) [.p e.x 0,.p (p n) 0,.n a,.S (N.c (c a)),.S (BA.c b)] m=A (.AB [.b (CZ (Ce c d b f a).1 d a (c a) b).2.1,.n (CZ (Ce c d b f a).1 d a (c a) b).2.2],i)/\B_ e i (h.AJ o (CZ (Ce c d b f a).1 d a (c a) b).1) p j/\Bo j m i:=by
 let⟨S,W,y,E,Q,R,_,_⟩:=g.Re v s
 have r:=(Ub c d b f a).1;let⟨U,z,V⟩:=r.rh y
 let⟨X,F,Y⟩:=r.XV E
 have Z:=g.lt;let⟨i,P,u,J⟩:=pT t (RA x (by omega)) g.AP g.Ax (Jf g.Cc) z F (b:=a) (by omega) (by omega) (c a) b
 rw[LX]at u;grind
variable{xt:Ab}
def pC{c:CI}(xc:BD c.l){v:G}{t:D->T}{q:T->Prop}(xo:B_ c v o t q){p x f:D}{xN:Au}(U:o.Ac[p]? =A b)(z:Gc c.l o p b x f l xt xN){V:D}{m:Ab}(u:Dw c.l V m b):∃d,W9 (pos 157) [.p c.x 0,.p (t p) 0] v=A (.AB [.b (EU c.l o p).2.1,.n (EU c.l o p).2.2],d)/\B_ c d (EU c.l o p).1 t q/\Bo q v d:=by
 have xz:EU c.l o p=(o.AJ x (Ce (Fx c.l b) f ⟨b.Az,Aa,L⟩ l m.Bk.l).1,(Ce (Fx c.l b) f ⟨b.Az,Aa,L⟩ l m.Bk.l).2):=by unfold EU;simp only[DK U,z.AP,z.Ax,AdR,DK z.Cc,u.Ca]
 rw[xz];have xX:=(xc.Bc V m u.hb).Bk;have xE:=(xc.Bc V m u.hb).ex;have x1:=z.lt;have xM:=MU (f:=m.Bk.l) (d:=λe _ d=>jj W9 157 2 [.n m.Bk.l,Z AF.c m.Bk,.p c.x 0,.p (t p) 0,.n e,.b (Ce (Fx c.l b) f ⟨b.Az,Aa,L⟩ l e).2.1] d)
  (e:=λe _ d=>(Ce (Fx c.l b) f ⟨b.Az,Aa,L⟩ l e).2.2=0/\B_ c d (o.AJ x (Ce (Fx c.l b) f ⟨b.Az,Aa,L⟩ l e).1) t q/\Bo q v d)
  (g:=λxQ=>∃d,xQ=A (.AB [.b (Ce (Fx c.l b) f ⟨b.Az,Aa,L⟩ l m.Bk.l).2.1,.n (Ce (Fx c.l b) f ⟨b.Az,Aa,L⟩ l m.Bk.l).2.2],d)/\B_ c d (o.AJ x (Ce (Fx c.l b) f ⟨b.Az,Aa,L⟩ l m.Bk.l).1) t q/\Bo q v d)
  (λe _ d xe xa=>by
   let⟨xb,y,xi⟩:=xa
   let⟨E,R⟩:=Bb xe
   have xw:=Cm xe;let⟨w,xm⟩:=u.Eo (xE E (AdU R))
   have xy:Fx c.l b e=w:=by unfold Fx;rw[u.Ca,R];exact OP xm
   let⟨xO,xC,xJ,xF,xf,xA,xZ,x2⟩:=box d (.I 2 (AF.c E))
   let⟨x9,x6⟩:=EL d (b:=2) [(.n 0),(.n 0)] (c:=AF.c E) xJ xF B B
   have x4:xC.AL xO 0 2=A (AF.c E):=BB xA;have xq:=y.ext xf;let⟨xR,xn,S,xI,xD⟩:=xq
   have W:=S.BC p b (RA U (by omega));rw[xI]at W;let⟨xk,xY,xg⟩:=Nc W E xm
   let⟨xP,M,xK,xG,xh,xB,x0,x3⟩:=box xk (.I 2 (N.c w))
   let⟨ya,x7⟩:=EL xk (b:=2) [(.i .u8 0),(.n 0)] (c:=N.c w) xK xG B B
   have x5:M.AL xP 0 2=A (N.c w):=BB xB;have J:=MD w;have X:=xf.AI (xg.AI xh);have xS:Bo q d M:=λx xH=>X.M (y.C4 xH);have r:=YR (Fx c.l b) f ⟨b.Az,Aa,L⟩ l e;by_cases xj:w.Ak=0
   .left;rw[A0 xj]at J;rw[Af P]at r;refine⟨(),M,?_,?_⟩;.show jj W9 157 2 _ _=jj W9 157 2 _ _;rw[r,K3.2.2.1];simp only[QY,K3.2.2.2.1,H (IE R),J.H B,QB,K3.2.2.2.2.1,H (Bh (a:=e) (by omega)), *]
    .show(Ce _ _ _ _ (e+1)).2.2=0/\B_ c M (o.AJ x (Ce _ _ _ _ (e+1)).1) t q/\_;rw[r];exact⟨xb,y.ext X,P⟩
   .rw[A2 xj]at J;rw[Ad (by grind)]at r;have xr:=y.ext X;let⟨xl,xL,Y,xT⟩:=dw xc U z u (Fx c.l b) ⟨b.Az,Aa,L⟩ xe xr
    have xV:M.Ap (t p) 3=A (.n b.Az):=Ay (W.ext (xg.AI xh)).M 3;have xW:Cb [(.n 0),(.b Aa),(.b Aa)] [(0,1),(2,1)] [.n b.Az,.b L]=A (.S (BA.c ⟨b.Az,Aa,L⟩)):=B;rw[xy]at xL Y r;by_cases xd:(CZ (Ce (Fx c.l b) f ⟨b.Az,Aa,L⟩ l e).1 f e w ⟨b.Az,Aa,L⟩).2.2=0
    .left;rw[Ad (by grind)]at r;refine⟨(),xl,?_,?_⟩;.show jj W9 157 2 _ _=jj W9 157 2 _ _;rw[r,K3.2.2.1];simp only[QY,LR,xw,K3.2.2.2.1,H (IE R),J.H B,QB,K3.2.2.2.2.2.1,xd,K3.2.2.2.2.2.2,K3.2.2.2.2.1,H (Bh (a:=e) (by omega)),ZR, *]
     grind
    .right;rw[Af xd]at r;have xv:=YP (f:=Fx c.l b) (d:=f) (c:=⟨b.Az,Aa,L⟩) (b:=l) (e:=e+1) (by grind) m.Bk.l (by omega);rw[xv,r];have xu:(CZ (Ce (Fx c.l b) f ⟨b.Az,Aa,L⟩ l e).1 f e w ⟨b.Az,Aa,L⟩).1=(Ce (Fx c.l b) f ⟨b.Az,Aa,L⟩ l e).1:=by unfold CZ at xd⊢;grind
     rw[xu]at Y;refine⟨xl,?_,Y,P⟩;show jj W9 157 2 _ _=_;rw[K3.2.2.1];simp only[QY,K3.2.2.2.1,H (IE R),J.H B,QB,K3.2.2.2.2.2.1, *])
  (λ_ d xa=>by
   let⟨xb,y,xi⟩:=xa
   refine⟨d,?_,y,xi⟩;show jj W9 157 2 _ _=_;rw[K3.2.2.1,xb];simp only[↓Q,↓QT,AdM,(CA m.Bk.l),K3.2.1])
  (b:=()) (a:=v) ⟨B,by show B_ c v (o.AJ x l) t q;rw[NC z.Cc];grind,P⟩
 let⟨d,xx,xp,xs⟩:=xM
 obtain⟨xR,xn,S,rfl,xD⟩:=xo;have x8:=S.M;have xU:v.Ap (xn.pc p) 0=A (.n V):=by rw[Ay (S.BC p b U).M];show A (F.n b.Bc)=_;rw[u.ha]
 refine⟨d,AZ B B ?_,xp,xs⟩;rw[K3.1];simp only[QY,H (CB u.hb), *];exact xx
def lz{a:AK}{c:D}{e:N}{b:BA}(f:(CZ a c d e b).2.2≠0):(CZ a c d e b).1=a:=by unfold CZ at f⊢;grind
def pU{r:CI}(xb:BD r.l){u:G}{x:Ai}{E:D->T}{y:T->Prop}(xg:B_ r u x E y){v:D}{xK:Au}(X:x.Ac[v]? =A b)(t:Gc r.l x v b q d l xt xK){xl:D}{z:Ab}(Z:Dw r.l xl z b)(c:N)(xU:c.Ak≠0):∃e,W9 (pos 202) [.p r.x 0,.p (E v) 0,.S (N.c c)] u=A (.AB [.b (JI x v c).2.1,.n (JI x v c).2.2],e)/\B_ r e (JI x v c).1 E y/\Bo y u e:=by
 let⟨xX,xJ,xT,xC,xY,xH,_,_⟩:=t.Re xb Z
 unfold JI;simp only[DK X,t.AP,t.Ax,AdR,DK t.Cc,Aeg, *];have xS:=(xb.Bc xl z Z.hb).Bk;have xZ:=t.lt;let⟨xe,m,xF,xA,xf,xy,xW,x0⟩:=box u (.I 2 (N.c c))
 have x5:=Ko u c xF xA;have xp:=xg.V xf;have xn:ES y u m xe:=by grind
 have xG:=MU (f:=z.Bk.l) (d:=λp _ e=>jj W9 202 2 [.n z.Bk.l,.p r.x 0,.p xe 0,.p (E v) 0,.n p,.b (Ce (λ_=>c) d ⟨b.Az,L,L⟩ l p).2.1] e)
  (e:=λp _ e=>(Ce (λ_=>c) d ⟨b.Az,L,L⟩ l p).2.2=0/\B_ r e (x.AJ q (Ce (λ_=>c) d ⟨b.Az,L,L⟩ l p).1) E (ES y u m)/\Bo (ES y u m) m e)
  (g:=λxL=>∃e,xL=A (.AB [.b (Ce (λ_=>c) d ⟨b.Az,L,L⟩ l z.Bk.l).2.1,.n (Ce (λ_=>c) d ⟨b.Az,L,L⟩ l z.Bk.l).2.2],e)/\B_ r e (x.AJ q (Ce (λ_=>c) d ⟨b.Az,L,L⟩ l z.Bk.l).1) E (ES y u m)/\Bo (ES y u m) m e)
  (λp _ e xj xa=>by
   let⟨xh,V,W⟩:=xa
   have xi:=Cm xj;have x3:=(W xe xn).t xy;have xq:=V;let⟨xM,M,J,xE,xz⟩:=xq
   have R:=J.BC v b (RA X (by omega));rw[xE]at R;have xQ:=R.M;have xR:Cb [(.n 0),(.b Aa),(.b Aa)] [(0,1),(1,1),(2,1)] [.n b.Az,.b L,.b L]=A (.S (BA.c ⟨b.Az,L,L⟩)):=B;let⟨xd,xk,U,xs⟩:=dw xb X t Z (λ_=>c) ⟨b.Az,L,L⟩ xj V
   have S:=YR (λ_=>c) d ⟨b.Az,L,L⟩ l p;rw[Ad (by grind)]at S;have xk:=xk;have U:B_ r xd (x.AJ q (CZ (Ce (λ_=>c) d ⟨b.Az,L,L⟩ l p).1 d p c ⟨b.Az,L,L⟩).1) E (ES y u m):=U;by_cases xc:(CZ (Ce (λ_=>c) d ⟨b.Az,L,L⟩ l p).1 d p c ⟨b.Az,L,L⟩).2.2=0
   .left;rw[Ad (by grind)]at S;refine⟨(),xd,?_,?_⟩;.show jj W9 202 2 _ _=jj W9 202 2 _ _;rw[S,On.2.2.1];simp only[QY,LR,xi,On.2.2.2.1,xc,On.2.2.2.2.2,On.2.2.2.2.1,H (Bh (a:=p) (by omega)), *]
    grind
   .right;rw[Af xc]at S;have xv:=YP (f:=λ_=>c) (d:=d) (c:=⟨b.Az,L,L⟩) (b:=l) (e:=p+1) (by grind) z.Bk.l (by omega);rw[xv,S];rw[lz xc]at U;refine⟨xd,?_,U,W.AI xs⟩;show jj W9 202 2 _ _=_;rw[On.2.2.1];simp only[QY,On.2.2.2.1, *])
  (λ_ e xa=>by
   let⟨xh,V,W⟩:=xa
   have xw:=CA z.Bk.l;refine⟨e,?_,V,W⟩;show jj W9 202 2 _ _=_;rw[On.2.2.1,xh];simp only[↓Q,↓QT,AdM,xw,On.2.1])
  (b:=()) (a:=m) ⟨B,by show B_ r m (x.AJ q l) E _;rw[NC t.Cc];grind,Bo.refl _ _⟩
 let⟨e,xx,xo,xr⟩:=xG
 obtain⟨xM,M,J,rfl,xz⟩:=xp;have R:=J.BC v b X;have Y:=J.BC q l t.Cc;let⟨xO,xV,x2⟩:=J.Lf t.Cc
 have x4:=J.M;have xi:m.Ap (M.pc v) 1=A (.n q):=by rw[Ay R.M];show A (F.n b.AP)=_;rw[t.AP]
 have xP:m.Ap (M.pc v) 2=A (.n d):=by rw[Ay R.M];show A (F.n b.Ax)=_;rw[t.Ax]
 have xN:=Y.M;have xB:d<l.AG.l:=by grind
 let⟨xu,xm⟩:=CD (f:=EE (M.og q)) (w:=1) (λ_=>B) Y.AG (F9 xB)
 have x1:m.Ap xu (d*1)=A (M.og q d):=by exact(xm.Ap (f:=EE (M.og q)) (λ_=>B) P (b:=0) (by grind))
 have xI:=Cp (Y.AD d xJ xC).1;rw[xH]at xI;refine⟨e,AZ B B ?_,xo.sub P,λq xD=>(xr q P).t (xf.M (xg.C4 xD))⟩;rw[On.1];simp only[QY,H xm.ia, *];exact xx
def gv{c:AF->N}{b:C _}{d:AK}{e:AF}(f:b[a]? =A e):Dc c b d (a+1)=((FG (Dc c b d a).1 a (c e)).1,(FG (Dc c b d a).1 a (c e)).2||(Dc c b d a).2):=by show(match b[a]?with|some e=>_|none=>_)=_;grind
def pB{f:CI}(E:BD f.l){b:G}{p:Ai}{S:D->T}(X:B_ f b p S u){l R:D}{j o:AK}{v:Ab}{a:Au}(x:p.Ac[e]? =A j)(g:Gc f.l p e j l R o v a){xI:D}{xr:Ab}(U:Dw f.l xI xr j):∃d,W9 (pos 156) [.p f.x 0,.p (S e) 0] b=A (.b (Cj f.l p e).2,d)/\B_ f d (Cj f.l p e).1 S u/\Bo u b d:=by
 have xj:=X;obtain⟨xO,k,r,rfl,xB⟩:=xj;have z:=r.BC e j x;have xt:b.Ap (k.pc e) 3=A (.n j.Az):=Ay z.M 3;by_cases M:j.Az>0
 .have xv:Cj f.l p e=(p,Aa):=by unfold Cj;simp only[DK x,Af M]
  rw[xv];refine⟨b,AZ B B ?_,X,P⟩;rw[Pr.1];simp only[QY, *]
 let⟨xh,w⟩:=g.GZ
 unfold Cj QF;simp only[DK x,Ad M,g.AP,g.Ax,AdR,DK g.Cc,w.Ca,g.hn,Aeg];let⟨_,_,_,_,_,_,xZ,_⟩:=g.Re E U
 have xb:=(E.Bc xh v w.hb).Ax R a g.hn;have xX:=xb.some E;have x2:=g.lt;have x0:=U.An;let⟨_,d,N,xi,xo⟩:=Dh (h:=a.A3.l) (f:=λq _ d=>jj W9 156 2 [.n a.A3.l,Z AF.c a.A3,.p (k.pc e) 0,.p (k.pc l) 0,.n q,.b (Dc (Bs o) a.A3 j q).2] d)
  (g:=λq _ d=>B_ f d (p.AJ e (Dc (Bs o) a.A3 j q).1) k.pc u/\Bo u b d)
  (λq _ d xe xn=>by
   let⟨xa,xV⟩:=xn
   let⟨t,xd⟩:=Bb xe
   have J:=Cm xe;let⟨xR,xg⟩:=w.Eo (xb.A3 t P)
   let⟨xM,xz,xE,xC,V,xy,x1,x3⟩:=box d (.I 2 (AF.c t))
   let⟨xU,xQ⟩:=EL d (b:=2) [(.n 0),(.n 0)] (c:=AF.c t) xE xC B B
   have xL:A9 2 d [.pi (AF.c t)]=A (.S (AF.c t)):=B;have xN:xz.AL xM 0 2=A (AF.c t):=BB xy;have Y:=xa.ext V;have xk:=Y;let⟨xO,x5,r,xD,xB⟩:=Y
   have y:=r.BC l o (RA g.Cc (by omega));rw[xD]at y;let⟨xY,xG,W⟩:=Nc y t xg
   have xl:=xk.ext W;have x4:=(ME (Bs o) a.A3 j q).1.An;let⟨xA,xH,xm,xp⟩:=fX xl (Jf x) (f:=q) (by omega) xR
   rw[LX]at xm;have xc:=gv (c:=Bs o) (d:=j) xd;rw[OP xg]at xc;refine⟨(),xA,?_,by grind,λl xf=>(xp l xf).t ((W.M P).t ((V.M (xa.C4 xf)).t P))⟩;show jj W9 156 2 _ _=jj W9 156 2 _ _;rw[xc,Pr.2.2.2.1];simp only[↓xU,↓LR,↓Q,↓QT,J,Pr.2.2.2.2.1,↓H (IE xd),↓H xL,↓H xQ,↓H xN,↓H xG,↓H xH,Pr.2.2.2.2.2,↓H (Bh (a:=q) (by omega))])
  (b:=()) (a:=b) ⟨by show B_ f b (p.AJ e j) k.pc u;rw[NC x];grind,P⟩
 have N:jj W9 156 2 [.n a.A3.l,Z AF.c a.A3,.p (k.pc e) 0,.p (k.pc l) 0,.n 0,.b Aa] b=jj W9 156 2 [.n a.A3.l,Z AF.c a.A3,.p (k.pc e) 0,.p (k.pc l) 0,.n a.A3.l,.b (Dc (Bs o) a.A3 j a.A3.l).2] d:=N;have y:=r.BC l o g.Cc;let⟨xW,xF,xP⟩:=r.Lf g.Cc
 have xT:b.Ap f.x 2=A k.cv:=Ay r.M 2;have xS:b.Ap f.x 0=A (Z Ab.c f.l):=Ay r.M 0;have J:b.Ap (k.pc e) 1=A (.n l):=by rw[Ay z.M];show A (F.n j.AP)=_;rw[g.AP]
 have xs:b.Ap (k.pc e) 2=A (.n R):=by rw[Ay z.M];show A (F.n j.Ax)=_;rw[g.Ax]
 have xq:b.Ap (k.pc l) 0=A (.n xh):=by rw[Ay y.M];show A (F.n o.Bc)=_;rw[w.ha]
 have xw:Bl 2 [.pi (Ab.c v)]=A (.pi ((Ab.c v).d 2)):=B;have xJ:AM b [.pi ((Ab.c v).d 2)]=A (Z Au.c v.Av):=B;have xx:Bl 3 [.pi (Au.c a)]=A (.pi ((Au.c a).d 3)):=B;have xK:AM b [.pi ((Au.c a).d 3)]=A (Z AF.c a.A3):=B;have xu:=CA a.A3.l;refine⟨d,AZ B B ?_,xi,xo⟩;rw[Pr.1];simp only[QY,xw,xJ,xx,xK,xt,M,Pr.2.1,xT,J,xF,xP,xS,xq,CB w.hb,xs,Fa g.hn];rw[N,Pr.2.2.2.1];simp only[↓Q,↓QT,AdM,xu,Pr.2.2.1]
def GL{a:G}{c:T}{b:D}{d:F}(e:a.Ap c b=A d):Bv .Cq [.p c b] a d=L:=by show KI (a.Ap c b) d=L;rw[e];exact L0 _
def gt{d:CI}(xl:BD d.l){l:G}{q:Ai}{o:D->T}{p:T->Prop}(xI:B_ d l q o p){f:D}{e g:AK}(Y:q.Ac[f]? =A e){xg:D}{a:Ab}(z:Dw d.l xg a e)(xu:e.next=k)(xN:f≠k)(u:q.Ac[k]? =A g)(xM:g.An.l=a.An){M:T}(xr:l.M M=A (.I 5 (Ab.c a)))(xH:p M)(t:Ah):∃b,jj W9 158 5 [.p M 0,.p d.x 0,.p (o f) 0,.b t] l=A (.AB [.b ((Gv d.l q f).2||t),.n 0],b)/\B_ d b (Gv d.l q f).1 o p/\Bo p l b:=by
 unfold Gv;simp only[DK Y,z.Ca,xu,AdR,DK u];have N:=xl.Bc xg a z.hb;have xO:=N.A_;let⟨_,b,y,xh,xm⟩:=Dh (h:=a.A_.l) (f:=λj _ b=>jj W9 158 2 [.n a.A_.l,Z AF.c a.A_,.p d.x 0,.p (o f) 0,.n j,.b ((Dc (Bs e) a.A_ g j).2||t)] b)
  (g:=λj _ b=>B_ d b (q.AJ k (Dc (Bs e) a.A_ g j).1) o p/\Bo p l b)
  (λj _ b xb xk=>by
   let⟨U,xJ⟩:=xk
   let⟨r,xa⟩:=Bb xb
   let⟨xF,xd⟩:=z.Eo (N.nx r P)
   let⟨xR,X,xw,xt,R,xq,xP,xQ⟩:=box b (.I 2 (AF.c r))
   let⟨xG,xE⟩:=EL b (b:=2) [(.n 0),(.n 0)] (c:=AF.c r) xw xt B B
   have xz:A9 2 b [.pi (AF.c r)]=A (.S (AF.c r)):=B;have S:=U.ext R;let⟨xS,v,x,xv,xL⟩:=S
   subst xv;have E:=x.BC f e (RA Y Om);let⟨xo,xe,xC⟩:=x.Lf (Jf u (b:=(Dc (Bs e) a.A_ g j).1))
   have xp:X.Ap (v.pc f) 7=A (.n k):=by rw[Ay E.M];grind
   let⟨J,xx,w⟩:=Nc E r xd
   have xi:=S.ext w;have V:=x.ext w;have xA:Aj (Bv .Cq [.p xo (k*1)] J (.p (v.pc k) 0)) (Aj (Bv .Cq [.p (v.pc f) 7] J (.n k)) (Aj (Bv .Cq [.p d.x 2] J v.cv) L Aa) Aa) Aa=L:=by
    let⟨xK,xf,xD⟩:=V.Lf (Jf u (b:=(Dc (Bs e) a.A_ g j).1))
    rw[xe]at xf;cases xf;rw[GL xD,GL (by rw[Ay (E.ext w).M];grind),GL (Ay V.M 2)];rfl
   have xT:=(ME (Bs e) a.A_ g j).1.An;let⟨xs,xy,xj,xn⟩:=fX xi (Jf u) (f:=j) (by omega) xF
   rw[LX]at xj;have W:=gv (c:=Bs e) (d:=g) xa;rw[OP xd]at W;refine⟨(),xs,?_,by grind,λxB xc=>(xn xB xc).t ((w.M P).t ((R.M (U.C4 xc)).t P))⟩;show jj W9 158 2 _ _=jj W9 158 2 _ _;rw[W,Mh.2.2.2.2.1,AfF];simp only[↓xG,↓LR,↓Q,↓QT,(Cm xb),Mh.2.2.2.2.2.1,↓H (IE xa),↓H xz,↓H xE,↓H (Ay x.M 2:X.Ap d.x 2=A v.cv),↓H xp,↓H xe,↓H xC,↓H (BB xq),↓H xx,↓Gn xA,↓H xy,Mh.2.2.2.2.2.2,↓H (Bh (a:=j) (by omega))])
  (b:=()) (a:=l) ⟨by show B_ d l (q.AJ k g) o p;rw[NC u];grind,P⟩
 have y:jj W9 158 2 [.n a.A_.l,Z AF.c a.A_,.p d.x 0,.p (o f) 0,.n 0,.b (Aa||t)] l=jj W9 158 2 [.n a.A_.l,Z AF.c a.A_,.p d.x 0,.p (o f) 0,.n a.A_.l,.b ((Dc (Bs e) a.A_ g a.A_.l).2||t)] b:=y;rw[Ae6]at y;refine⟨b,?_,xh,xm⟩;rw[Mh.2.1];simp only[QY,xr];rw[y,Mh.2.2.2.2.1];simp only[↓Q,↓QT,AdM,(CA a.A_.l),Mh.2.2.2.1]
def pD{e:CI}(E:BD e.l){p:G}{d:Ai}{xl:D->T}(z:B_ e p d xl u){f yv yr:D}{c x2:AK}{x3:Ab}{yt:Au}(q:d.Ac[f]? =A c)(x0:Gc e.l d f c yv yr x2 x3 yt){g:Ab}(k:Dw e.l h g c)(yL:g.A_.l≠0)(R:CF e.l d):∃xg s,W9 (pos 158) [.p e.x 0,.p (xl f) 0] p=A (.AB [.b (ER e.l d f).2.1,.n (ER e.l d f).2.2],xg)/\B_ e xg (ER e.l d f).1 s u/\Bo u p xg/\∀xj,xj<d.Ac.l->s xj=xl xj:=by
 have xo:=E.Bc h g k.hb;have yK:=(AdN.1 q).1;have ym:=R.A7;have yf:=R.next f c q;have yM:=R.Az f c q;let⟨I,xA⟩:=Bb (b:=g.A_) (a:=0) (by omega)
 let⟨j,xB⟩:=k.Eo (xo.nx I P)
 have xC:Et e.l c=j:=by unfold Et;rw[k.Ca,xA];exact OP xB
 let⟨J,xx,yq,yk,xd,yb,yO,yR⟩:=box p (.I 5 (Ab.c g))
 let⟨xN,xJ⟩:=EL p (b:=5) [(.s []),(.n 0),.sn,.sn,.sn] (c:=Ab.c g) yq yk B B
 have yF:=z.ext xd;have xV:=z;obtain⟨yS,o,S,rfl,yJ⟩:=xV;have xM:p.Ap e.x 0=A (Z Ab.c e.l):=Ay S.M 0;have xu:p.Ap (o.pc f) 0=A (.n h):=by rw[Ay (S.BC f c q).M];show A (F.n c.Bc)=_;rw[k.ha]
 have xG:A9 5 p [.pi (Ab.c g)]=A (.S (Ab.c g)):=B;have xt:xx.Ap J 3=A (Z AF.c g.A_):=Ay yb 3;have xD:AR 2 [Z AF.c g.A_,.n 0]=A (.pi (AF.c I)):=IE (a:=0) xA;have xH:A9 2 xx [.pi (AF.c I)]=A (.S (AF.c I)):=B;have xR:=(S.BC f c q).ext xd;let⟨xy,xE,xT⟩:=Nc xR I xB
 let⟨yy,m,yp,yl,xU,ya,yN,yQ⟩:=box xy (.I 2 (N.c j))
 let⟨xO,xK⟩:=EL xy (b:=2) [(.i .u8 0),(.n 0)] (c:=N.c j) yp yl B B
 have xI:m.AL yy 0 2=A (N.c j):=BB ya;have M:=xd.AI (xT.AI xU);have xX:Bo u p m:=P;have r:=MD j;have x:=Xb j;have xv:DE [.b L]=A (.b Aa):=B;have yI:DE [.b Aa]=A (.b L):=B;unfold ER;simp only[DK q,xC];by_cases W:j.Ak=0;.rw[Af W];rw[A0 W]at r;refine⟨m,o.pc,AZ B B ?_,z.ext M,xX,P⟩;rw[Mh.1];simp only[QY,H (CB k.hb),r.H B,QB, *]
 rw[Ad W];rw[A2 W]at r;by_cases V:j.Ak=5
 .rw[Af V];rw[A0 V]at x;let⟨Y,xa,v,xY⟩:=pU E (z.ext M) q x0 k j (by omega)
  refine⟨Y,o.pc,AZ B B ?_,v,P,P⟩;rw[Mh.1];simp only[QY,H (CB k.hb),r.H B,QB,x.H B, *]
 rw[Ad V];rw[A2 V]at x;have xq:=z.V M;have xp:ES u p m J:=P;have yc:m.M J=A (.I 5 (Ab.c g)):=P;have y:=(S.BC f c q).ext M;have xm:m.Ap (o.pc f) 7=A (.n c.next):=Ay y.M 7;by_cases X:c.next= -1
 .have yz:m.Ap (o.pc f) 0=A (.n (h:K)):=by rw[Ay y.M];show A (F.n c.Bc)=_;rw[k.ha]
  have yA:m.Ap (o.pc f) 1=A (.n c.AP):=Ay y.M 1;have yB:m.Ap (o.pc f) 2=A (.n c.Ax):=Ay y.M 2;have yC:m.Ap (o.pc f) 3=A (.n c.Az):=Ay y.M 3;have x9:=F2 (a:=c.Az) (b:=1) (by omega) (by omega);let⟨Y,s,xa,v,xY,xs⟩:=fN xq k.hb (YU E k.hb) ym c.AP c.Ax (c.Az+1) j
  have yu:Gu e.l d f=if(EO e.l d (h:K) c.AP c.Ax (c.Az+1) j).2≠0 then(d,Aa,(EO e.l d (h:K) c.AP c.Ax (c.Az+1) j).2)else((EO e.l d (h:K) c.AP c.Ax (c.Az+1) j).1.AJ f {c with next:=(d.Ac.l:K)},L,0):=by unfold Gu;simp only[DK q,xC,X,Aea,k.ha]
  rw[yu];by_cases x6:d.Ac.l=400
  .have yg:EO e.l d (h:K) c.AP c.Ax (c.Az+1) j=(d,5):=by unfold EO;grind
   rw[yg]at xa v⊢;have x5:¬((5:K)=0):=by omega
   simp only[ne_eq,x5,AdM,Aea];refine⟨Y,s,AZ B B ?_,v.sub P,P,xs⟩;rw[Mh.1];simp only[QY,H (CB k.hb),r.H B,QB,x.H B,Int.reduceEq, *]
  .have yh:EO e.l d (h:K) c.AP c.Ax (c.Az+1) j=(⟨d.Ac++[{Dl e.l g h c.AP c.Ax (c.Az+1)with An:=(Dl e.l g h c.AP c.Ax (c.Az+1)).An.set 0 j}],d.Am,d.round,d.AA⟩,0):=by
    unfold EO;rw[Ad x6,AdR,k.hb];rfl
   rw[yh]at xa v⊢
   have xf:¬((0:K)≠0):=by omega
   simp only[Ad xf]
   have xi:(⟨d.Ac++[{Dl e.l g h c.AP c.Ax (c.Az+1)with An:=(Dl e.l g h c.AP c.Ax (c.Az+1)).An.set 0 j}],d.Am,d.round,d.AA⟩:Ai).Ac[f]? =A c:=by grind
   let⟨yD,xn,U,yo,ye⟩:=v
   have yx:xn.pc f=o.pc f:=by grind
   have xS:=U.BC f c xi
   have yE:Y.Ap e.x 2=A xn.cv:=Ay U.M 2
   have xk:=Cp U.Ac
   rw[Ad0]at xk
   have yn:(⟨d.Ac++[{Dl e.l g h c.AP c.Ax (c.Az+1)with An:=(Dl e.l g h c.AP c.Ax (c.Az+1)).An.set 0 j}],d.Am,d.round,d.AA⟩:Ai).Ac.l=d.Ac.l+1:=by grind
   rw[yn]at xk
   have xw:=FA (a:=((d.Ac.l+1:D):K)) (b:=1) (by omega) (by omega)
   rw[show((d.Ac.l+1:D):K)-1=(d.Ac.l:K) by omega]at xw
   let⟨xz,xL,xP,xr⟩:=xS.RH (d.Ac.l:K)
   have x1:=U.NI xi (t:=.BC f) B xr xP
   have yG:=xr.Fp (by grind) ye
   have xW:B_ e xz _ s (ES u p m):=⟨yD,xn,x1,yo,P⟩
   have yi:((⟨d.Ac++[{Dl e.l g h c.AP c.Ax (c.Az+1)with An:=(Dl e.l g h c.AP c.Ax (c.Az+1)).An.set 0 j}],d.Am,d.round,d.AA⟩:Ai).AJ f {c with next:=(d.Ac.l:K)}).Ac[d.Ac.l]? =A {Dl e.l g h c.AP c.Ax (c.Az+1)with An:=(Dl e.l g h c.AP c.Ax (c.Az+1)).An.set 0 j}:=by show((d.Ac++_).set f _)[d.Ac.l]? =_;grind
   have xQ:Dw e.l h g {c with next:=(d.Ac.l:K)}:=k.En ⟨B,B,B,B,B,B,B,B⟩
   have yH:=xo.An
   have yj:(((Dl e.l g h c.AP c.Ax (c.Az+1)).An.set 0 j).l:K)=g.An:=by rw[Aed];show((BG g.An.n AO).l:K)=_;grind
   have yd:xz.M J=A (.I 5 (Ab.c g)):=P
   let⟨xh,xb,xe,xZ⟩:=gt E xW (Jf xi) xQ B (by omega) yi yj yd xp L
   have yw:s f=o.pc f:=P
   rw[yw]at xb
   rw[yx]at xL
   refine⟨xh,s,AZ B B ?_,xe.sub P,P,xs⟩
   rw[Mh.1]
   simp only[↓xN,↓xO,↓Q,↓QT,↓H xM,↓H xu,↓H (CB k.hb),↓H xG,↓H xJ,↓H xt,↓H xD,↓H xH,↓H xE,↓H xK,↓H xI,↓r.H B,QB,↓H xv,↓x.H B,↓H xm,X,↓H yz,↓H yA,↓H yB,↓H yC,↓H x9,↓H xa,Mh.2.2.1,↓H yE,↓H xk,↓H xw,↓H xL]
   grind
 .let⟨xF,x8,w⟩:=yf.resolve_left X
  unfold Gu;simp only[DK q,Ad X];have xf:¬((0:K)≠0):=by omega
  simp only[Ad xf];have yP:=w.lt;let⟨ys,x4,xc⟩:=R.BC xF x8 w.Cc
  have:ys=h:=by have:=xc.ha;have:=k.ha;have:=w.Bc;omega
  subst this;have:x4=g:=Aew (xc.hb.s.t k.hb);subst this;obtain⟨xh,xb,xe,xZ⟩:=gt E xq q k w.next (by omega) w.Cc xc.An yc xp Aa;have xb:jj W9 158 5 [.p J 0,.p e.x 0,.p (o.pc f) 0,.b Aa] m=_:=xb;rw[w.next]at xm;have x7:¬((xF:K)= -1):=by omega
  refine⟨xh,o.pc,AZ B B ?_,xe.sub P,P,P⟩;rw[Mh.1];simp only[↓xN,↓xO,↓Q,↓QT,AdM,↓H xM,↓H xu,↓H (CB k.hb),↓H xG,↓H xJ,↓H xt,↓H xD,↓H xH,↓H xE,↓H xK,↓H xI,↓r.H B,Aet,↓H xv,↓x.H B,↓H xm,x7];omega
