/- Part of the proof. -/
import Derived.Test.YtbmnfifnenajjaaGreatMbf
set_option linter.all false
noncomputable section
open Option renaming some->A,none->O,getD->Option.g,bind->Option.b
open _root_ renaming rfl->B,List->C,Nat->D,Int->K,if_neg->Ad,if_pos->Af,Option->Ae,Bool->Ah,cond->Aj,decide_eq_true->A0,decide_eq_false->A2,absurd->BF
open Bool renaming true->L,false->Aa
open Decidable renaming decide->Ao
open Nat renaming beq->AW,ble->BX,le_refl->CK
open List renaming replicate->BG,length->List.l,map->List.m,take->List.t,drop->List.d,flatMap->List.f
open Go.IntKind renaming i64->Go.IntKind.n
open Array renaming toList->Array.l
open Eq renaming trans->Eq.t,symm->Eq.s
open Or renaming inl->Or.i,inr->Or.j
open Int renaming toNat->Int.n
namespace Go.Proofs.YtbmnfifnenajjaaGreat
open Go.Fg
def T2(a:G)(d:F)(c:C K):Prop:=Aw a d Be 1 c\/(c=[]/\∃b e f,d=.Z b 0 0 0 1/\a.M b=A (.I e f))
def u3{b:G}{q:F}{e a:C K}(k:T2 b q e)(s:(e.l+a.l)*8<=GA):∃i g,DN 1 8 b [q,Z Be a]=A (i,g)/\T2 g i (e++a):=by
 rcases k with k|⟨rfl,c,h,y,rfl,m⟩
 .let⟨i,g,d,v,_⟩:=Tt (f:=Be) (w:=1) (j:=8) (λ_=>B) (λ_=>B) k s
  exact⟨i,g,d,.i v⟩
 .have l:Ii (Z Be a)=A a.l:=by unfold Z;show A (a.m Be).l=_;grind
  have r:F7 b 1 a.l (Z Be a)=A (a.f Be):=by
   unfold Z;show Aj (BX a.l (a.m Be).l&&((a.m Be).all λd=>AW d.l 1)) (A (((a.m Be).t a.l).flatten)) O=_;have z:BX a.l (a.m Be).l=L:=AdX (by grind);have E:((a.m Be).all λd=>AW d.l 1)=L:=by rw[Aei];intro d t;obtain⟨x,_,rfl⟩:=Aeu.1 t;rfl
   grind
  have p:∀j,Jo b 1 8 (.Z c 0 0 0 1) a.l (a.f Be)=j->DN 1 8 b [.Z c 0 0 0 1,Z Be a]=j:=λj d=>by
   show(match Ii (Z Be a)with|some h=>(match F7 b 1 h (Z Be a)with|some o=>Aj (BU o) (Jo b 1 8 (.Z c 0 0 0 1) h o) O|none=>O)|none=>O)=_
   rw[l];simp only[r]
   rw[(λe=>by
   induction e with
   |nil=>rfl
   |cons x H n=>rw[DJ]at n⊢;rw[Aeh,AeG,n];rfl:∀e:C K,BU (e.f Be)=L)];grind
  by_cases u:a.l=0
  .have:a=[]:=by grind
   subst this;exact⟨.Z c 0 0 0 1,b,p _ B,.j ⟨B,c,h,y,B,m⟩⟩
  .refine⟨.Z b.next 0 (0+a.l) 0 1,(b.GG c).V (.I ((0+a.l)*1) (a.f Be)),p _ ?_,.i ?_⟩;.show Aj _ _ _=_;rw[Gm u,AdX (by grind)];show Aj (Xo (b.M c)) (A (F.Z b.next 0 (0+a.l) 0 1,(b.GG c).V (.I ((0+a.l)*1) (Es [] (a.f Be))))) O=_;rw[m,KU,Af2];rfl
   .have l:(b.GG c).next=b.next:=G.Tk _ _
    refine .j ⟨b.next,0,by simp,Om,?_,?_⟩<;>grind
def u4{b:G}{d:F}{c:C _}(a:T2 b d c):Fz 2 b d (Z Be c):=by
 rcases a with a|⟨rfl,g,j,k,rfl,h⟩;.exact Fz.Cs (b:=Be) (h:=1) (λ_=>B) (λ_=>B) a
 .exactλi e _=>⟨e,B,FC.refl _⟩
def pO(c:D)(r:c<=1000000000)(d:G):∃k g,W9 (pos 192) [.sn,.n c] d=A (k,g)/\T2 g k []:=by
 have m:¬(c:K)<0:=by omega
 have n:H7 [.sn]=A (.n 0):=B;have p:DX [.sn]=A (.n 0):=B;have i:=FA (a:=0) (b:=0) (by omega) (by omega);have j:=FA (a:=(c:K)) (b:=0) (by omega) (by omega);rw[show(0:K)-0=0 by omega]at i;rw[show(c:K)-0=c by omega]at j;have f:=Ew .n (c:K) 0;by_cases o:c=0;.rw[A2 (by omega)]at f;refine⟨.sn,d,AZ B B ?_,.i (Aw.sn d)⟩;rw[SX.1];simp only[QY,m,SX.2.1,n,p,i,j,f,SX.2.2]
 .rw[A0 (by omega)]at f;have s:GF 1 Aa L [.sn,.n 0]=A .sn:=B;have l:BU (F_ [.n 0] c)=L:=by
   have:∀e,BU (F_ [.n 0] e)=L:=λe=>by
    induction e with
    |zero=>rfl
    |succ e h=>show BU (Es [.n 0] (F_ [.n 0] e))=L;rw[KU];rw[DJ]at h⊢;rw[AeG,h];rfl
   grind
  have q:Hm [.n 0] 1 8 d [.sn,.n (c:K)]=A (.Z d.next 0 c 0 1,d.V (.I (c*1) (F_ [.n 0] c))):=by show Aj (Aj (BX (c*8) GA) (BU (F_ [.n 0] c)) Aa) (Aj (AW c 0) (A (F.sn,d)) (Aj (BX (c*8) GA) (A (F.Z d.next 0 c 0 1,d.V (.I (c*1) (F_ [.n 0] c)))) O)) O=_;rw[AdX (DG (by omega)),l,Gm o];rfl
  have t:GF 1 Aa L [.Z d.next 0 c 0 1,.n 0]=A (.Z d.next 0 0 0 1):=B;refine⟨.Z _ 0 0 0 1,_,AZ B B ?_,.j ⟨B,d.next,_,_,B,HM d (.I (c*1) (F_ [.n 0] c))⟩⟩;rw[SX.1];simp only[QY,SX.2.1,SX.2.2, *]
def Qu:∀a:C (C K),a.flatten.l=D3 a
 |[]=>rfl
 |c::b=>by rw[Ae8,AdY,Qu b];rfl
def oD{b:C (C K)}{a:D}{c:C K}(d:b[a]? =A c):(b.t (a+1)).flatten=(b.t a).flatten++c:=by rw[<-FL d,List.flatten_append];simp
def pr(c:C (C K))(V:c.l<=2000000)(U:D3 c<=100000000):AY 138 [Z Cv c] (Z Be c.flatten):=by
 have w:∀{e:D}{f:C K},c[e]? =A f->D3 (c.t e)+f.l<=D3 c:=λ{e f} j=>by have T:=TO j;have t:=cD (b:=c) (e+1);omega
 let⟨l,g,p,y⟩:=Dh (h:=c.l) (f:=λe (l:D) g=>jj W9 138 6 [.n (c.l:K),Z Cv c,.n (e:K),.n (l:K),Z Cv c] g) (g:=λe l g=>g=G.Aq/\l=D3 (c.t e))
  (λe l g m q=>by
   obtain⟨rfl,rfl⟩:=q;let⟨f,j⟩:=Bb m
   have M:=w j;have E:=F2 (a:=(D3 (c.t e):K)) (b:=(f.l:K)) (by omega) (by omega);rw[show(D3 (c.t e):K)+(f.l:K)=((D3 (c.t e)+f.l:D):K) by omega]at E;have z:¬((D3 (c.t e)+f.l:D):K)<0:=by omega
   refine⟨D3 (c.t e)+f.l,G.Aq,?_,B,(TO j).s⟩;show jj W9 138 6 _ _=jj W9 138 6 _ _;rw[ML.2.2.1];simp only[QY,(Cm m),ML.2.2.2.1,H (I9 j),Mm,z,ML.2.2.2.2.1,H (Bh (a:=e) (by omega)), *])
  (b:=0) (a:=G.Aq) ⟨B,B⟩
 obtain⟨rfl,rfl⟩:=y;rw[Gz]at p;have p:jj _ 138 6 [.n c.l,Z Cv c,.n 0,.n 0,Z Cv c] G.Aq=jj W9 138 6 [.n c.l,Z Cv c,.n c.l,.n (D3 c),Z Cv c] G.Aq:=p;let⟨x,v,N,P⟩:=pO (D3 c) (by omega) G.Aq
 let⟨k,t,r,u⟩:=Dh (h:=c.l) (f:=λe k g=>jj W9 138 2 [.n c.l,Z Cv c,.n e,k] g) (g:=λe k g=>T2 g k (c.t e).flatten)
  (λe k g m q=>by
   let⟨f,j⟩:=Bb m
   have o:=Cm m;have M:=w j;let⟨R,J,S,W⟩:=u3 (a:=f) q (DG (by rw[Qu];omega))
   refine⟨R,J,?_,by rw[oD j];grind⟩;show jj W9 138 2 _ _=jj W9 138 2 _ _;rw[ML.2.2.2.2.2.2.1];simp only[QY,o,ML.2.2.2.2.2.2.2.1,H (I9 j),Mm,ML.2.2.2.2.2.2.2.2,H (Bh (a:=e) (by omega)), *])
  (b:=x) (a:=v) P
 rw[Gz]at u;have r:jj W9 138 2 [.n c.l,Z Cv c,.n 0,x] v=jj W9 138 2 [.n c.l,Z Cv c,.n c.l,k] t:=r;have o:=CA c.l;refine Fz.Oc B B (f:=k) (d:=t) (c:=2) ?_ (u4 u) (by omega);rw[ML.1];simp only[↓Q];rw[p,ML.2.2.1];simp only[QY,o,ML.2.1,N];rw[r,ML.2.2.2.2.2.2.1];simp only[↓Q,↓QT,AdM,o,ML.2.2.2.2.2.1]
variable{a:G}{f:T}
def fM{e:T}{g:N}{m:F}{b:D}{n:D->C F}(c:K)(p:a.M e=A (.I 2 (N.c g)))(u:Lv a e)(q:a.M f=A (.I 1 [m]))(v:Lv a f)(y:Aw a m n 2 (List.range b)):∃j,W9 (pos 143) [.n c,.p e 0,.p f 0] a=A (.S (N.c (if c=0 then g else JJ b)),j)/\AH a j:=by
 let⟨I,E,t,s,d,o,H,x⟩:=box a (.I 2 [.i .u8 0,.n 0])
 have P:=Jp a t s;have J:=(d.M u).t p;have M:=(d.M v).t q;have w:=Cp y;rw[Ad0]at w;have z:Cb [(.i .u8 0),(.n 0)] [(0,1),(1,1)] [.i .u8 4,.n b]=A (.S (N.c (JJ b))):=B;let⟨r,l,k,i⟩:=Gy o (if c=0 then g else JJ b)
 refine⟨r,AZ B B ?_,by rw[i];exact d.Gw x _⟩;clear i;rw[hg.1];by_cases h:c=0;.rw[Af h]at l k⊢;simp only[QY, *]
 .rw[Ad h]at l k⊢;simp only[QY,hg.2, *]
def Pk(b:G)(a:T)(i:N)(h:T)(f e:F)(c g:D->F)(d:D):Prop:=b.M a=A (.I 2 (N.c i))/\Lv b a/\a≠h/\¬B8 f c g d a/\As e a
def Aax{U:C (C K)}{xi:C Ah}{xe:G}{j u:T}{xr h:D}{d:C K}{l:Ah}{g:K}(xT:d[h]? =A g)(yf:d.l<=400){n:D}{c:C AE×C N}(ye:c.1.l=n+h)(yh:c.1.l<400){z y:F}{p r:D->F}{f:G}(m:Hj xe j c z y p r f)(xA:Pk f u (if l=L then D4 else AO) j z y p r c.1.l):
  ∃o xj xy X,jj W9 95 4 [.n d.l,Z Be d,.f (pos 143) [.p u 0,.p j 0],Z Be d,.n h,.n xr,.n U.l,Z Cv U,Z CN xi,y,.p j 0] f=jj W9 95 4 [.n d.l,Z Be d,.f (pos 143) [.p u 0,.p j 0],Z Be d,.n (h+1:D),.n xr,.n U.l,Z Cv U,Z CN xi,y,.p j 0] X/\
   Hj xe j (c.1++[⟨[EA g,EY n (h+1:D) d.l l],[]⟩],c.2) o y xj xy X/\Pk X u (if l=L then D4 else AO) j o y xj xy (c.1.l+1):=by
 have xN:h<d.l:=by grind
 have x6:f.Ap j 0=A z:=Ay m.B.gx 0
 have xK:=ab g
 have xZ:Bv .Cq [.p j 0] f z=L:=Ij m.B.gx B
 have W:AH f (f.V (.I 4 ([EA g,AO].f N.c))):=AH.V _ _
 have xc:=iL f (EA g) AO
 have xC:∀e,Lv f e->As (.Z f.next 0 2 3 2) e:=λe q=>EN λxD=>by subst xD;exact EX f q
 have xw:=jC f.next (EA g) AO
 have xl:Cb [.sn,.sn] [(0,1)] [.Z f.next 0 2 3 2]=A (.S [.Z f.next 0 2 3 2,.sn]):=B
 generalize yd:F.Z f.next 0 2 3 2=t at xc xC xw xl
 generalize xM:f.V (.I 4 ([EA g,AO].f N.c))=xp at W xc
 have xz:=m.B.Ar (f:=xp) P
 have yl:∀w,w=j\/B8 z p r c.1.l w->Lv f w:=λw S=>by
  rcases S with rfl|S;.exact m.B.lx
  .exact m.B.M.lv S
 let⟨o,yc,Y,xX,x8,xo,v,xn⟩:=xz.add (p:=⟨[EA g,AO],[]⟩) xc (Aw.sn xp) (Ku _) (λw S=>⟨P,Cg w⟩) (by omega)
 have x7:Y.Ap j 0=A o:=Ay xo 0
 have xq:(c.1++[(⟨[EA g,AO],[]⟩:AE)]).l=c.1.l+1:=by simp
 have xt:=Cp v.M.o
 rw[Ad0,xq]at xt
 have xm:=FA (a:=((c.1.l+1:D):K)) (b:=1) (by omega) (by omega)
 rw[show((c.1.l+1:D):K)-1=(c.1.l:K) by omega]at xm
 have xP:(c.1++[(⟨[EA g,AO],[]⟩:AE)])[c.1.l]? =A ⟨[EA g,AO],[]⟩:=by simp
 let⟨I,xU,_,xu,_,_⟩:=v.M.at (by grind:c.1.length<(c.1++[(⟨[EA g,AO],[]⟩:AE)]).length)
 rw[Ec]at xu
 have xI:Bl 0 [.p I (c.1.l*2)]=A (.p I (c.1.l*2)):=B
 have xY:AM Y [.p I (c.1.l*2)]=A t:=xu
 have xE:=FA (a:=(d.l:K)) (b:=1) (by omega) (by omega)
 have xF:=FA (a:=(d.l:K)-1) (b:=(h:K)) (by omega) (by omega)
 let⟨xV,xa,xb,xs,xW⟩:=xA
 have xJ:=xn u (W.lv xa) xb xs
 have xL:=xJ.1.t ((W.M xa).t xV)
 let⟨J,xk,xd⟩:=fM ((d.l:K)-1-(h:K)) xL P xo v.lx v.M.o
 have xR:(if(d.l:K)-1-(h:K)=0 then(if l=L then D4 else AO)else JJ ((c.1++[(⟨[EA g,AO],[]⟩:AE)]).l))=EY n (h+1:D) d.l l:=by unfold EY;grind
 rw[xR]at xk
 have xG:C8 W9 (.f (pos 143) [.p u 0,.p j 0]) [.n ((d.l:K)-1-(h:K))] Y=A (.S (N.c (EY n (h+1:D) d.l l)),J):=xk
 have E:=v.Ar (f:=J) λe q _=>⟨xd.M q,xd.lv q⟩
 have x0:Bv .Cq [.p I (c.1.l*2)] J t=L:=by
  let⟨xg,yj,_,xv,_,_⟩:=E.M.at (by grind:c.1.length<(c.1++[(⟨[EA g,AO],[]⟩:AE)]).length)
  have:xg=I:=by grind
  subst this;rw[Ec]at xv;show KI (J.Ap xg (c.1.l*2)) _=L;rw[xv];exact L0 _
 have x1:Bv .Cq [.p j 0] J o=L:=Ij E.gx B
 let⟨xh,R,xx,_,_,ya,yb,x5,x2,x3⟩:=E.M.Ep (h:=1) (x:=AO) xP B (EY n (h+1:D) d.l l)
 rw[Ec]at xx
 have x9:AR 2 [t,.n 1]=A (.p xh (1*2)):=xx
 have yi:(c.1++[(⟨[EA g,AO],[]⟩:AE)]).set c.1.l ⟨[EA g,AO].set 1 (EY n (h+1:D) d.l l),[]⟩=c.1++[⟨[EA g,EY n (h+1:D) d.l l],[]⟩]:=by grind
 have xB:CY R o (BW p c.1.l t) (BW r c.1.l .sn) (c.1++[⟨[EA g,EY n (h+1:D) d.l l],[]⟩]):=by grind
 have xO:(c.1++[(⟨[EA g,EY n (h+1:D) d.l l],[]⟩:AE)]).l=c.1.l+1:=by simp
 have yk:B8 o (BW p c.1.l t) (BW r c.1.l .sn) (c.1.l+1) xh:=.j ⟨c.1.l,by omega,.i x3⟩
 have x4:=v.nx
 rw[xq]at x4
 have xf:∀e,Lv f e->e≠j->¬B8 z p r c.1.l e->R.M e=f.M e/\Lv R e/\¬B8 o (BW p c.1.l t) (BW r c.1.l .sn) (c.1.l+1) e:=λe q xS xQ=>by have xH:=xn e P xS xQ;have yg:=xH.2.2 P (Cg e);grind
 refine⟨o,BW p c.1.l t,BW r c.1.l .sn,R,?_,?_,?_⟩
 .rw[IJ.2.2.2.2.2.2.2.2.1];simp only[↓Q,↓QT,(Cm xN),IJ.2.2.2.2.2.2.2.2.2.1,↓H (UJ xT),↓XB,↓H x6,↓xK.H B,xZ,↓Lq,↓Xa.H B,↓H xw,↓H xl,xM,↓xX,↓H x8,↓H x7,↓H xt,↓H xm,↓H xU,↓H xI,↓H xY,↓H xE,↓H xF,↓H xG,x0,x1,↓H x9,↓H ya,Bool.cond_true,IJ.2.2.2.2.2.2.2.2.2.2,↓H (Bh (a:=h) (by omega))]
 .exact{
  B:={M:=xB,gx:=(x5 j P).t E.gx,lx:=by rw[x2];exact E.lx,nx:=by grind}
  ou:=m.ou.Ar λe q V=>by have:=m.ux e V;grind
  ux:=λe V=>by have:=m.ux e V;rw[xO];exact⟨P,(xf e (m.ou.Cz V) P P).2.2⟩
  BO:=λe q=>by
   let⟨ym,yn,yo,yp,yq⟩:=m.BO e q
   grind}
 .have yr:=xf u xa xb xs;exact⟨P,P,xb,P,xW⟩
def tr{e:C (C K)}{t:C Ah}{z:G}{d:T}{o:D}{a:C K}{c:Ah}(xB:e[o]? =A a)(xy:t[o]? =A c)(yc:o<3000000){b:C AE×C N}(yd:b.1.l+a.l<=400)(ye:b.2.l<3000000){J v:F}{E M:D->F}{k:G}(m:Hj z d b J v E M k):∃xi j xd xj X,jj W9 95 2 [.n e.l,Z Cv e,Z CN t,.n o,v,.p d 0] k=jj W9 95 2 [.n e.l,Z Cv e,Z CN t,.n (o+1:D),j,.p d 0] X/\Hj z d (NV b (a,c)) xi j xd xj X:=by
 have xT:o<e.l:=by grind
 have xJ:=Cm xT;have xx:=Xa;have xP:=aa;let⟨l,yb,xD,xA,xH,xO,yf,xa⟩:=box k (.I 2 [.i .u8 0,.n 0])
 let⟨xe,x3,_,xt⟩:=Gy xO AO
 have xv:xe.M l=A (.I 2 (N.c AO)):=by rw[xt,AN,Af B]
 have xY:Lv xe l:=by grind
 have xq:AH k xe:=by rw[xt];exact xH.Gw xa _
 have xI:∃P,(∀v:F,jj W9 95 8 [v,.n o,.n e.l,Z Cv e,Z CN t,.p d 0] k=jj W9 95 7 [.p l 0,v,Z Be a,.n o,.n (e.l:K),Z Cv e,Z CN t,.p d 0] P)/\AH k P/\P.M l=A (.I 2 (N.c (if c=L then D4 else AO)))/\Lv P l:=by
  cases c with
  |true=>
   let⟨xQ,x4,_,u⟩:=Gy xv D4
   refine⟨xQ,λv=> ?_,by rw[u];exact xq.Gw xa _,by rw[u,AN,Af B];rfl,by grind⟩;rw[IJ.2.2.2.2.2.1];simp only[↓H (I9 xB),↓Mm,↓xx.H B];rw[Jp k xD xA];simp only[QY,x3,Uf xy,XA,xP.H B,x4]
  |false=>refine⟨xe,λv=> ?_,xq,xv,xY⟩;rw[IJ.2.2.2.2.2.1];simp only[↓H (I9 xB),↓Mm,↓xx.H B];rw[Jp k xD xA];simp only[QY,H (Uf xy),XA, *]
 let⟨P,xM,xl,xw,Y⟩:=xI
 have xk:=m.B.Ar (f:=P) λg p _=>⟨xl.M p,xl.lv p⟩;let⟨xR,xu,V⟩:=fM (a.l:K) xw Y xk.gx xk.lx xk.M.o
 have xV:(if(a.l:K)=0 then(if c=L then D4 else AO)else JJ (b.1.l))=EY b.1.l 0 a.l c:=by
  unfold EY;by_cases xL:(a.l:K)=0;.grind
  .have xS:(0:K)<(a.l:K):=by omega
   rw[Ad xL,Af xS,Int.add_zero]
 rw[xV]at xu;have xN:C8 W9 (.f (pos 143) [.p l 0,.p d 0]) [.n a.l] P=A (.S (N.c (EY b.1.l 0 a.l c)),xR):=xu;have r:=xl.AI V;let⟨j,R,xX,x2,u,xc⟩:=FJ (f:=N.c) (w:=2) (b:=EY b.1.l 0 a.l c) (o:=.S (N.c (EY b.1.l 0 a.l c))) (h:=16) (λ_=>B) B B (m.ou.ext r) (DG (by grind))
 have xf:∀g,g=d\/B8 J E M b.1.l g->As v g:=λg p=>AdS λxg=>by
  have:=m.ux g xg;rcases p with rfl|p;.grind
  .grind
 have xp:As v l:=AdS λxW=>xa (m.ou.Cz xW);have x7:Hj z d (b.1,b.2++[EY b.1.l 0 a.l c]) J j E M R:={
  B:=m.B.Ar λg p S=>⟨(u.M (r.lv p) (xf g S)).t (r.M p),u.lv (r.lv p) (xf g S)⟩
  ou:=x2
  ux:=λg xg=>by
   constructor;.intro W;subst W;exact xg (xc g (r.lv m.B.lx) (xf g (.i B)))
   .intro S;exact xg (xc g (r.lv (m.B.M.lv S)) (xf g (.j S)))
  BO:=λg p=>by
   let⟨xZ,xh,x0,x1,xo⟩:=m.BO g p
   exact⟨(u.M (r.lv xh) xo).t ((r.M xh).t xZ),u.lv (r.lv xh) xo,x0,x1,xc g (r.lv xh) xo⟩}
 have ya:Pk R l (if c=L then D4 else AO) d J j E M b.1.l:=⟨(u.M (V.lv Y) xp).t ((V.M Y).t xw),u.lv (V.lv Y) xp,λW=>xa (W▸m.B.lx),λS=>xa (m.B.M.lv S),xc l (V.lv Y) xp⟩;let⟨⟨xF,xs,xG⟩,xn,xm,xb,x9⟩:=Dh (h:=a.l) (f:=λq _ k=>jj W9 95 4 [.n a.l,Z Be a,.f (pos 143) [.p l 0,.p d 0],Z Be a,.n q,.n o,.n e.l,Z Cv e,Z CN t,j,.p d 0] k)
  (g:=λq U k=>Hj z d (b.1++Jd b.1.l a.l c 0 (a.t q),b.2++[EY b.1.l 0 a.l c]) U.1 j U.2.1 U.2.2 k/\Pk k l (if c=L then D4 else AO) d U.1 j U.2.1 U.2.2 (b.1.l+q))
  (λq U k xU m=>by
   let⟨x5,xE⟩:=Bb xU
   have xC:(b.1++Jd b.1.l a.l c 0 (a.t q)).l=b.1.l+q:=by rw[AdY,U5,Aef];omega
   have xr:=m.2;rw[<-xC]at xr;let⟨xi,xd,xj,X,W,x6,x8⟩:=Aax (xr:=o) (U:=e) (xi:=t) xE (by omega) (n:=b.1.l) xC (by grind) m.1 xr
   refine⟨(xi,xd,xj),X,W,?_,?_⟩;.have xz:=a4 b.1.l a.l c x5 (a.t q) 0;rw[FL xE,Aef,show min q a.l=q by omega,Ad2]at xz;show Hj z d (b.1++Jd b.1.l a.l c 0 (a.t (q+1)),b.2++[EY b.1.l 0 a.l c]) xi j xd xj X;rw[xz,<-AeN];grind
   .grind)
  (b:=(J,E,M)) (a:=R) (by show Hj z d (b.1++Jd b.1.l a.l c 0 (a.t 0),b.2++[EY b.1.l 0 a.l c]) J j E M R/\Pk R l (if c=L then D4 else AO) d J j E M (b.1.l+0);rw[Af1];show Hj z d (b.1++[],b.2++[EY b.1.l 0 a.l c]) J j E M R/\_;rw[Ad5];grind)
 have xm:jj W9 95 4 [.n a.l,Z Be a,.f (pos 143) [.p l 0,.p d 0],Z Be a,.n 0,.n o,.n e.l,Z Cv e,Z CN t,j,.p d 0] R=jj W9 95 4 [.n a.l,Z Be a,.f (pos 143) [.p l 0,.p d 0],Z Be a,.n a.l,.n o,.n e.l,Z Cv e,Z CN t,j,.p d 0] xn:=xm;have xb:Hj z d (b.1++Jd b.1.l a.l c 0 (a.t a.l),b.2++[EY b.1.l 0 a.l c]) xF j xs xG xn:=xb;rw[Gz]at xb;have xK:=CA a.l;refine⟨xF,j,xs,xG,xn,?_,xb⟩;rw[IJ.2.2.2.2.1];simp only[QY,xJ,xM,IJ.2.2.2.2.2.2.2.1,xN,xX];rw[xm,IJ.2.2.2.2.2.2.2.2.1];simp only[↓Q,↓QT,AdM,xK,IJ.2.2.2.2.2.2.1,↓H (Bh (a:=o) (by omega))]
def le(c:K->Ah):∀b:C _,b.flatten.all c=b.all λa=>a.all c
 |[]=>rfl
 |a::d=>by grind
def lp(f:G)(g:C K):M4 (λb=>b=f) (pos 139) [] g (λa=>.n a) (λa=> !I7 a):=λa _ b d=>by have c:=N9 a (-1000000000) 1000000000;refine⟨b,AZ B B ?_,d⟩;show xx W9 139 [.n a] b=A (.b (!I7 a),b);unfold I7;generalize BK a (-1000000000) 1000000000=e at c⊢;rw[r5];cases e<;>simp only[QY,c.H B,QB]
def ra(a:C (C K))(b:C Ah)(xI:a.l<=2000000)(xC:D3 a<=100000000)(d:G):((Co a b).2.2≠0->∃k,W9 (pos 95) [Z Cv a,Z CN b] d=A (.AB [.S [.sn],.sn,.n (Co a b).2.2],k)/\AH d k)/\
  ((Co a b).2.2=0->∃g o q r k,W9 (pos 95) [Z Cv a,Z CN b] d=A (.AB [.S [g],o,.n 0],k)/\CY k g q r (Co a b).1/\Aw k o N.c 2 (Co a b).2.1/\AH d k/\
   (∀c,Lv d c->¬B8 g q r (Co a b).1.l c/\As o c)/\(∀c,¬As o c->¬B8 g q r (Co a b).1.l c)):=by
 let⟨j,S,xK,xH,X,xb,xN,xr⟩:=box d (.I 1 [.sn])
 have W:∀(xl:F->G->R),bl (.p d.next 0) (d.V (.I 1 [.sn])) xl=xl (.p j 0) S:=Dy d _ xK xH
 have xj:S.AL j 0 1=A [.sn]:=BB xb
 let⟨xd,xk,xi,xz⟩:=PR xb (b:=.sn) B
 have xv:AH d xd:=by rw[xz];exact X.Gw xr _
 have Y:∀t:K,t≠0->Co a b=([],[],t)->xx W9 95 [Z Cv a,Z CN b] d=A (.AB [.S [.sn],.sn,.n t],xd)->
  ((Co a b).2.2≠0->∃k,W9 (pos 95) [Z Cv a,Z CN b] d=A (.AB [.S [.sn],.sn,.n (Co a b).2.2],k)/\AH d k)/\
  ((Co a b).2.2=0->∃g o q r k,W9 (pos 95) [Z Cv a,Z CN b] d=A (.AB [.S [g],o,.n 0],k)/\CY k g q r (Co a b).1/\Aw k o N.c 2 (Co a b).2.1/\AH d k/\
   (∀c,Lv d c->¬B8 g q r (Co a b).1.l c/\As o c)/\(∀c,¬As o c->¬B8 g q r (Co a b).1.l c)):=λt xF xD xM=>by
  rw[xD]
  exact⟨λ_=>⟨xd,AZ B B xM,xv⟩,λy=>BF y xF⟩
 by_cases E:a.l=b.l
 .have J:(b.l:K)=(a.l:K):=by omega
  have xc:=pr a xI xC
  have xG:=Qu a
  let⟨U,w,xA⟩:=M7 dZ gM (t:=λd=>d=S) (IX.Z (b:=Be) (z:=1) a.flatten (w:=λj=>.n j) (y:=AM) (λ_=>B) (λ_ _=>B)) (lp S a.flatten) (by omega) S B
  subst xA
  rw[P_ I7,le]at w
  have xq:DX [Z Be a.flatten]=A (.n (D3 a:K)):=by rw[DF,xG]
  cases P:a.all (λxf=>xf.all I7)with
  |false=>rw[P]at w;refine Y 3 (by grind) (by unfold Co;rw[Ad (λe=>e E),P,Af B]) ?_;rw[IJ.1];simp only[↓W,↓Q,↓QT,J,IJ.2.1,↓xc.H B,↓H w,QB,↓H xj,↓H xk,↓H xi]
  |true=>
   rw[P]at w;have T:=Ew .n (D3 a:K) 400;by_cases xm:400<D3 a;.rw[A0 (by omega)]at T;refine Y 5 (by grind) (by unfold Co;rw[Ad (λe=>e E),P,Ad (by grind),Af xm]) ?_;rw[IJ.1];simp only[↓W,↓Q,↓QT,J,IJ.2.1,↓xc.H B,↓H w,QB,↓H xq,↓H T,↓H xj,↓H xk,↓H xi]
   .rw[A2 (by omega)]at T;unfold Co;rw[Ad (λe=>e E),P,Ad (by grind),Ad xm];refine⟨λy=>BF B y,λ_=> ?_⟩;have xw:Hj d j ([],[]) .sn .sn (λ_=>.sn) (λ_=>.sn) U:={
     B:={M:=CY.nil _ _ _,gx:=xb,lx:=xN,nx:=E_.2 ⟨Cg _,λp xe=>by grind⟩}
     ou:=Aw.sn U
     ux:=λc xg=>BF (Cg c) xg
     BO:=λc u=>⟨X.M u,X.lv u,λt=>xr (t▸u),E_.2 ⟨Cg _,λp xe=>by grind⟩,Cg c⟩}
    let⟨⟨g,o,q,r⟩,e,xa,m⟩:=Dh (h:=a.l) (f:=λp (x:F×F×(D->F)×(D->F)) e=>jj W9 95 2 [.n (a.l:K),Z Cv a,Z CN b,.n (p:K),x.2.1,.p j 0] e)
     (g:=λp x e=>Hj d j (Kp ((a.zip b).t p)) x.1 x.2.1 x.2.2.1 x.2.2.2 e)
     (λp x e xe m=>by
      let⟨xf,xp⟩:=Bb xe
      let⟨y,xE⟩:=Bb (b:=b) (a:=p) (by omega)
      have xL:(a.zip b)[p]? =A (xf,y):=by grind
      let⟨xU,xV⟩:=Uj (b:=a) (c:=b) (a:=p) (by omega) E
      have w:=TO xp;have xW:=cD (b:=a) (p+1);let⟨xt,xs,xn,xu,xo,t,xS⟩:=tr xp xE (by omega) (by omega) (by omega) m
      refine⟨(xt,xs,xn,xu),xo,t,?_⟩;show Hj d j (Kp ((a.zip b).t (p+1))) xt xs xn xu xo;rw[Y4 xL];grind)
     (b:=(.sn,.sn,λ_=>.sn,λ_=>.sn)) (a:=U) xw
    have xa:jj W9 95 2 [.n (a.l:K),Z Cv a,Z CN b,.n 0,.sn,.p j 0] U=jj W9 95 2 [.n (a.l:K),Z Cv a,Z CN b,.n (a.l:K),o,.p j 0] e:=xa;have m:Hj d j (Kp ((a.zip b).t a.l)) g o q r e:=m;rw[Aeq (by grind)]at m;have xy:BU [g]=L:=by rw[DJ];simp[(Cr m.B.M.o).2]
    have x0:=m.B.gx;have V:∀c,(e.set j (.I 1 [g])).M c=e.M c:=jP m.B.gx;have xR:AX 1 e [.p j 0,.S [g]]=A (AC,e.set j (.I 1 [g])):=Gb m.B.gx B xy;have xQ:(e.set j (.I 1 [g])).AL j 0 1=A [g]:=BB (by grind);have xO:∀c,Lv (e.set j (.I 1 [g])) c=Lv e c:=by grind
    generalize e.set j (.I 1 [g])=xB at V xR xQ xO;have xT:=CA a.l;refine⟨g,o,q,r,xB,AZ B B ?_,m.B.M.Ar λxh xJ _=>⟨V xh,by grind⟩,m.ou.Ar λxh xJ _=>⟨V xh,by grind⟩,λc u=> ?_,λc u=> ?_,λc xg=>(m.ux c xg).2⟩;.rw[IJ.1];simp only[↓W,↓Q,↓QT,J,IJ.2.1,↓xc.H B,↓H w,QB,↓H xq,↓H T,IJ.2.2.1];rw[xa,IJ.2.2.2.2.1];simp only[QY,IJ.2.2.2.1, *]
    .let⟨xP,xX,_⟩:=m.BO c u
     exact⟨(V c).t xP,by grind⟩
    .let⟨_,_,_,xY,xZ⟩:=m.BO c u
     grind
 .have J:¬b.l=(a.l:K):=by omega
  refine Y 2 (by grind) (by unfold Co;rw[Af E]) ?_;rw[IJ.1];simp only[↓W,↓Q,↓QT,AdM,J,↓H xj,↓H xk,↓H xi]
def JS(a:K)(b:AQ):K:=
 if(b.l.l:K)≠a\/(b.BT.l:K)≠a\/a>3 then 2
 else if(b.l.any λc=>Ao ((c.l:K)>40))=L then 5 else 0
def lo(d:G)(e:C (C K)):M4 (λb=>b=d) (pos 137) [] e (λa=>Z Be a) (λa=>Ao ((a.l:K)>40)):=λa _ b c=>by have f:=Ew .n (a.l:K) 40;refine⟨b,AZ B B ?_,c⟩;show xx W9 137 [Z Be a] b=A (.b (Ao ((a.l:K)>40)),b);rw[r4];simp only[QY, *]
def q_(b:K)(a:AQ)(n:a.l.l<1000000000):AY 94 [.n b,.S a.c] (.n (JS b a)):=Bu B B B (by
 let⟨v,c,o,m,s,h,t,u⟩:=box G.Aq (.I 2 a.c)
 have r:=Dy G.Aq (.I 2 a.c) o m;have w:=h;have x:=h;let⟨l,p,k⟩:=M7 l9 ru (t:=λi=>i=c) (IX.Z (b:=Cv) (z:=1) a.l (w:=λa=>Z Be a) (y:=AM) (λ_=>B) (λ_ _=>B)) (lo c a.l) n c B
 subst k;refine⟨l,?_⟩;unfold JS;by_cases d:a.l.l=b
 .by_cases e:a.BT.l=b
  .by_cases g:b>3;.rw[Af (.j (.j g)),S8.1];simp only[QY, *]
   .rw[Ad (by grind),S8.1];generalize(a.l.any λq=>Ao ((q.l:K)>40))=j at p⊢;cases j<;>simp only[QY,r,d,e,g,S8.2.1,QB,S8.2.2,reduceIte, *]
  .rw[Af (.j (.i e)),S8.1];simp only[QY, *]
 .rw[Af (.i d),S8.1];simp only[QY, *])
inductive Bm where
 |Ex|Bn|Ac|Am|C5
 |BC (a:D)
 |An (a:D)
 |AG (a:D)
 |AD (a b:D)
 |AS (a:D)
 |A4 (a:D)
 |B1 (a b:D)
 deriving DecidableEq
structure AK where
 Bc:K
 AP:K
 Ax:K
 Az:K
 An:C N
 AG:C (C N)
 AS:C K
 next:K
 A4:C (C BA)
def Tg(b:T->Bm)(d:F)(c:Bm):Prop:=∀a,¬As d a->b a=c
def EE(a:D->F)(b:D):C F:=[a b]
structure C6(e:T->Bm)(c:G)(d:D)(l:T)(a:AK)(m k g i:F)(j h:D->F):Prop where
 M:c.M l=A (.I 9 [.n a.Bc,.n a.AP,.n a.Ax,.n a.Az,m,k,g,.n a.next,i])
 lv:Lv c l
 B3:e l=.BC d
 An:Aw c m N.c 2 a.An
 Fr:Tg e m (.An d)
 AG:Aw c k (EE j) 1 (List.range a.AG.l)
 Jl:Tg e k (.AG d)
 AD:∀(b:D) f,a.AG[b]? =A f->Aw c (j b) N.c 2 f/\Tg e (j b) (.AD d b)
 AS:Aw c g Be 1 a.AS
 Fq:Tg e g (.AS d)
 A4:Aw c i (EE h) 1 (List.range a.A4.l)
 Jk:Tg e i (.A4 d)
 B1:∀(b:D) f,a.A4[b]? =A f->Aw c (h b) BA.c 3 f/\Tg e (h b) (.B1 d b)
def Bm.of(b:D):Bm->Prop
 | .BC a=>a=b
 | .An a=>a=b
 | .AG a=>a=b
 | .AD a _=>a=b
 | .AS a=>a=b
 | .A4 a=>a=b
 | .B1 a _=>a=b
 |_=>False
def C6.Ar{m u:T->Bm}{j k:G}{l:D}{i:T}{n:AK}{t s o q:F}{r p:D->F}(b:C6 m j l i n t s o q r p)(d:∀a,Lv j a->(m a).of l->k.M a=j.M a/\Lv k a/\u a=m a):C6 u k l i n t s o q r p where
 M:=(d i b.lv (by rw[b.B3];rfl)).1.t b.M
 lv:=(d i b.lv (by rw[b.B3];rfl)).2.1
 B3:=(d i b.lv (by rw[b.B3];rfl)).2.2.t b.B3
 An:=b.An.Ar λa e c=>⟨(d a e (by rw[b.Fr a c];rfl)).1,(d a e (by rw[b.Fr a c];rfl)).2.1⟩
 Fr:=λa c=>(d a (b.An.Cz c) (by rw[b.Fr a c];rfl)).2.2.t (b.Fr a c)
 AG:=b.AG.Ar λa e c=>⟨(d a e (by rw[b.Jl a c];rfl)).1,(d a e (by rw[b.Jl a c];rfl)).2.1⟩
 Jl:=λa c=>(d a (b.AG.Cz c) (by rw[b.Jl a c];rfl)).2.2.t (b.Jl a c)
 AD:=λg h f=>⟨(b.AD g h f).1.Ar λa e c=>⟨(d a e (by rw[(b.AD g h f).2 a c];rfl)).1,(d a e (by rw[(b.AD g h f).2 a c];rfl)).2.1⟩,λa c=>(d a ((b.AD g h f).1.Cz c) (by rw[(b.AD g h f).2 a c];rfl)).2.2.t ((b.AD g h f).2 a c)⟩
 AS:=b.AS.Ar λa e c=>⟨(d a e (by rw[b.Fq a c];rfl)).1,(d a e (by rw[b.Fq a c];rfl)).2.1⟩
 Fq:=λa c=>(d a (b.AS.Cz c) (by rw[b.Fq a c];rfl)).2.2.t (b.Fq a c)
 A4:=b.A4.Ar λa e c=>⟨(d a e (by rw[b.Jk a c];rfl)).1,(d a e (by rw[b.Jk a c];rfl)).2.1⟩
 Jk:=λa c=>(d a (b.A4.Cz c) (by rw[b.Jk a c];rfl)).2.2.t (b.Jk a c)
 B1:=λg h f=>⟨(b.B1 g h f).1.Ar λa e c=>⟨(d a e (by rw[(b.B1 g h f).2 a c];rfl)).1,(d a e (by rw[(b.B1 g h f).2 a c];rfl)).2.1⟩,λa c=>(d a ((b.B1 g h f).1.Cz c) (by rw[(b.B1 g h f).2 a c];rfl)).2.2.t ((b.B1 g h f).2 a c)⟩
def C6.ext{n:T->Bm}{f g:G}{i:D}{l:T}{b:AK}{m k c e:F}{j d:D->F}(o:C6 n f i l b m k c e j d)(a:AH f g):C6 n g i l b m k c e j d:=o.Ar λp h _=>⟨a.M h,a.lv h,B⟩
def H0(b:AK)(a:AF):Ae N:=if a.Ax<0 then(if 0<=a.AD then b.An[a.AD.n]?else O)else(if 0<=a.AD then(b.AG[a.Ax.n]?).b λc=>c[a.AD.n]?else O)
def Nc{xg:T->Bm}{e:G}{Z:D}{z:T}{j:AK}{E y J R:F}{g Q:D->F}(H:C6 xg e Z z j E y J R g Q)(a:AF){l:N}(b:H0 j a=A l):∃u,W9 (pos 63) [.p z 0,.S (AF.c a)] e=A (.S (N.c l),u)/\AH e u:=by
 let⟨xn,v,X,V,n,M,xd,xm⟩:=box e (.I 2 (AF.c a))
 let⟨xo,S,Y,W,p,P,xl,xe⟩:=box v (.I 2 [.i .u8 0,.n 0])
 have xu:=Dy e (.I 2 (AF.c a)) X V;have xv:=Jp v Y W;have m:=n.AI p;have xf:=λxb=>xe (n.lv xb);have c:=H.ext m;have t:=(p.M xd).t M;have xi:=t;have xj:=t;have xq:=c.M;have xr:=c.M;let⟨U,xt,xp,s⟩:=Gy P l
 refine⟨U,AZ B B ?_,by rw[s];exact m.Gw xf _⟩;clear s;rw[hp.1];unfold H0 at b;by_cases r:a.Ax<0
 .rw[Af r]at b;by_cases k:0<=a.AD
  .rw[Af k]at b;let⟨h,d⟩:=CD (f:=N.c) (w:=2) (λ_=>B) c.An b
   have xa:AR 2 [E,.n a.AD]=A (.p h (a.AD.n*2)):=by have:=d.ia;rwa[show a.AD.n=a.AD by omega]at this
   have xh:=d.AL (f:=N.c) (λ_=>B) b;simp only[QY, *]
  .grind
 .rw[Ad r]at b;by_cases k:0<=a.AD
  .rw[Af k]at b
   cases i:j.AG[a.Ax.n]?with
   |none=>rw[i]at b;cases b
   |some xc=>
    rw[i]at b;have b:=b;have x:=(AdN.1 i).1;let⟨h,d⟩:=CD (f:=EE g) (w:=1) (λ_=>B) c.AG (F9 x)
    have xa:AR 1 [y,.n a.Ax]=A (.p h (a.Ax.n*1)):=by have:=d.ia;rwa[show a.Ax.n=a.Ax by omega]at this
    have xs:AM S [.p h (a.Ax.n*1)]=A (g a.Ax.n):=by have:=d.Ap (f:=EE g) (λ_=>B) (F9 x) (b:=0) (by grind);exact this
    let⟨I,q⟩:=CD (f:=N.c) (w:=2) (λ_=>B) (c.AD _ xc i).1 b
    have xk:AR 2 [g a.Ax.n,.n a.AD]=A (.p I (a.AD.n*2)):=by have:=q.ia;rwa[show a.AD.n=a.AD by omega]at this
    have xh:=q.AL (f:=N.c) (λ_=>B) b;simp only[QY,hp.2, *]
  .grind
def Kh(a:AK):C AF->Ae (C N)
 |[]=>A []
 |b::d=>match H0 a b,Kh a d with
  |some e,A c=>A (e::c)
  |_,_=>O
def Yu{d:AK}:∀{f:C _}{c:C N},Kh d f=A c->f.l=c.l/\∀{b:D}{e:AF},f[b]? =A e->∃i,H0 d e=A i/\c[b]? =A i
 |[],c,a=>by cases a;grind
 |e::k,c,a=>by
  unfold Kh at a
  cases h:H0 d e with
  |none=>rw[h]at a;cases a
  |some i=>
   cases g:Kh d k with
   |none=>rw[h,g]at a;cases a
   |some o=>
    rw[h,g]at a
    cases a
    let⟨m,n⟩:=Yu g
    refine⟨by grind,λ{b}{l} j=> ?_⟩
    cases b with
    |zero=>cases j;grind
    |succ b=>grind
def gk{xt:T->Bm}{e:G}{xm:D}{m:T}{U:AK}{xr xq xf xh:F}{xp xg:D->F}(xb:C6 xt e xm m U xr xq xf xh xp xg)(b:C AF){r:C N}(J:Kh U b=A r)(xz:b.l<1000000):∃d u,W9 (pos 87) [.p m 0,Z AF.c b] e=A (d,u)/\Aw u d N.c 2 r/\AH e u/\Dx e d:=by
 let⟨xk,xj⟩:=Yu J
 let⟨d,a,z,q,o,l⟩:=Dh (h:=b.l) (f:=λk d a=>jj W9 87 2 [.n b.l,Z AF.c b,.p m 0,.n k,d] a) (g:=λk d a=>Aw a d N.c 2 (r.t k)/\AH e a/\Dx e d)
  (λk d a X xd=>by
   let⟨q,o,l⟩:=xd
   let⟨g,W⟩:=Bb X
   let⟨xa,J,xl⟩:=xj W
   have v:=Cm X;have xs:A9 2 a [.pi (AF.c g)]=A (.S (AF.c g)):=B;have M:AX 2 (a.V (.I 2 [.n 0,.n 0])) [.p a.next 0,.S (AF.c g)]=A (AC,a.V (.I 2 (AF.c g))):=ET B B;have t:AH a (a.V (.I 2 (AF.c g))):=AH.V _ _;have E:(a.V (.I 2 (AF.c g))).M a.next=A (.I 2 (AF.c g)):=by grind
   have xw:∀(S:F->G->R),bl (.p a.next 0) (a.V (.I 2 [.n 0,.n 0])) S=S (.p a.next 0) (a.V (.I 2 [.n 0,.n 0])):=λ_=>B;generalize c:a.next=j at E M;generalize a.V (.I 2 (AF.c g))=xx at t E M;have xu:=E;let⟨xy,xn,xc⟩:=Nc (xb.ext (o.AI t)) g J
   have P:=t.AI xc;have xA:(r.t k).l<=k:=by grind
   let⟨xv,xi,xo,Y,V,xe⟩:=FJ (f:=N.c) (w:=2) (b:=xa) (o:=.S (N.c xa)) (h:=16) (λ_=>B) B B (q.ext P) (DG (by omega))
   rw[FL xl]at Y;have p:=o.AI P;refine⟨xv,xi,?_,Y,λj c=>⟨(V.M (p.lv c) (l j c)).t (p.M c),V.lv (p.lv c) (l j c)⟩,λj c=>xe j (p.lv c) (l j c)⟩;show jj W9 87 2 _ _=jj W9 87 2 _ _;rw[S7.2.2.1];simp only[QY,xw,v,S7.2.2.2.1,IE W,xs,c,M,xu,xn,xo,S7.2.2.2.2,Bh (a:=k) (by omega)])
  (b:=.sn) (a:=e) ⟨Aw.sn e,λj c=>⟨B,c⟩,λj _=>Cg j⟩
 have z:jj W9 87 2 [.n b.l,Z AF.c b,.p m 0,.n 0,.sn] e=jj W9 87 2 [.n b.l,Z AF.c b,.p m 0,.n b.l,d] a:=z;have v:=CA b.l;rw[xk,Gz]at q;refine⟨d,a,AZ B B ?_,q,o,l⟩;rw[S7.1];simp only[↓H (DF AF.c b)];rw[z,S7.2.2.1];simp only[↓Q,↓QT,AdM,v,S7.2.1]
def lq{z:T->Bm}{v:D}{k:T}{i:AK}{y x n s:F}{w q:D->F}(l:C6 z a v k i y x n s w q)(r:a.M f=A (.I 1 [.p k 0]))(j:Lv a f)(c:AF){g:N}(u:H0 i c=A g){e:G}(b:AH a e):∃h,W9 (pos 147) [.S (AF.c c),.p f 0] e=A (.b (!Ao (g.Ak=0)),h)/\AH a h:=by
 let⟨Q,E,I,H,d,p,M,P⟩:=box e (.I 2 (AF.c c))
 have S:=(d.M (b.lv j)).t ((b.M j).t r);have R:=p;let⟨t,J,m⟩:=Nc (l.ext (b.AI d)) c u
 have o:=MD g;refine⟨t,AZ B B ?_,b.AI (d.AI m)⟩;rw[sd];simp only[QY,o.H B, *]
def lr{E:T->Bm}{w:D}{l g:T}{i:AK}{z y p t:F}{x r:D->F}(m:C6 E a w l i z y p t x r)(s:a.M g=A (.I 1 [.p l 0]))(k:Lv a g)(c:AF){d:N}(v:H0 i c=A d){f:G}(b:AH a f):∃h,W9 (pos 148) [.S (AF.c c),.p g 0] f=A (.b (Ao (d.Ak=0)),h)/\AH a h:=by
 let⟨R,H,J,I,e,q,P,Q⟩:=box f (.I 2 (AF.c c))
 have U:=(e.M (b.lv k)).t ((b.M k).t s);have S:=q;let⟨u,M,n⟩:=Nc (m.ext (b.AI e)) c v
 have j:=MD d;refine⟨u,AZ B B ?_,b.AI (e.AI n)⟩;generalize Ao (d.Ak=0)=o at j⊢;rw[se];cases o<;>simp only[QY,j.H B,QB, *]
def Hi(a:AK)(b:AF):Ah:= !Ao (((H0 a b).g AO).Ak=0)
def FH(b:AK)(a:Au)(d:K):Ah:=
 if d>0 then Aa
 else if a.op=8\/a.op=9 then(match a.A3 with|c::_=>Hi b c|[]=>Aa)
 else if a.op=6 then a.A3.any (Hi b)
 else a.A3.all (Hi b)
def AaL{xf:T->Bm}{c:G}{xa:D}{J t:T}{d:AK}{xe xd V X:F}{xc W:D->F}(n:C6 xf c xa J d xe xd V X xc W){b:Au}(q:c.M f=A (.I 1 [.p J 0]))(I:Lv c f)(y:c.M t=A (.I 4 (Au.c b)))(xl:Lv c t)(xj:b.A3.l<1000000)(e:∀a∈b.A3,∃l,H0 d a=A l)(xi:b.op=8\/b.op=9->b.A3≠[])(w:K)(Y:¬w>0):∃z,jj W9 97 3 [.p t 0,.p f 0] c=A (.b (FH d b w),z)/\AH c z:=by
 have M:=y;have N:=y;have Q:=q;unfold FH;rw[Ad Y];have R:TW (AH c) (pos 147) [.p f 0] b.A3 (Hi d):=λa r u o=>by
  let⟨l,e⟩:=e a r
  let⟨m,xb,p⟩:=lq n q I a e o
  refine⟨m,?_,p⟩;unfold Hi;rw[e];grind
 have S:TW (AH c) (pos 148) [.p f 0] b.A3 (λa=> !Hi d a):=λa r u o=>by
  let⟨l,e⟩:=e a r
  let⟨m,xb,p⟩:=lr n q I a e o
  refine⟨m,?_,p⟩;show W9 (pos 148) [.S (AF.c a),.p f 0] u=A (.b (!Hi d a),m);unfold Hi;rw[e,Bool.not_not];grind
 by_cases g:b.op=8\/b.op=9
 .rw[Af g]
  cases xk:b.A3 with
  |nil=>grind
  |cons a xm=>
   let⟨l,E⟩:=e a (by grind)
   let⟨h,j,k⟩:=Nc n a E
   have x:=MD l;have H:AR 2 [Z AF.c b.A3,.n 0]=A (.pi (AF.c a)):=IE (a:=0) (by grind);have P:A9 2 c [.pi (AF.c a)]=A (.S (AF.c a)):=B;refine⟨h,?_,k⟩;show _=A (F.b (Hi d a),h);unfold Hi;rw[E,Np.2.1];rcases g with g|g;.simp only[QY,M,g,Np.2.2.2,Q,N,H,P,j,x.H B];rfl
   .simp only[QY,Int.reduceEq,M,g,Np.2.2.2,Q,N,H,P,j,x.H B];rfl
 .rw[Ad g];have xg:¬b.op=8:=by grind
  have xh:¬b.op=9:=by grind
  by_cases v:b.op=6
  .rw[Af v];let⟨h,j,k⟩:=YG R (by omega) c (λf s=>⟨B,s⟩)
   refine⟨h,?_,k⟩;rw[Np.2.1];simp only[QY,Int.reduceEq,Np.2.2.2, *]
  .rw[Ad v];let⟨h,j,k⟩:=YG S (by omega) c (λf s=>⟨B,s⟩)
   rw[P_ (Hi d)]at j;generalize b.A3.all (Hi d)=U at j⊢;refine⟨h,?_,k⟩;rw[Np.2.1];cases U<;>simp only[QY,Np.2.2.2,Np.2.2.1,QB, *]
variable{d:G}
def rb{xC:T->Bm}{xx:D}{q c:T}{g:AK}{xB xA N xn:F}{xz xm:D->F}(xi:C6 xC d xx c g xB xA N xn xz xm){n:C Ab}{xE:C F}(xo:d.M q=A (.I 6 (Z Ab.c n::xE)))(xy:Lv d q){J m:D}{e:Ab}{b:Au}{j:K}(xr:g.Bc=J)(xs:n[J]? =A e)(U:e.Av[m]? =A b)(S:g.AS[m]? =A j)(xu:b.A3.l<1000000)(xw:∀xl∈b.A3,∃xD,H0 g xl=A xD)(xq:b.op=8\/b.op=9->b.A3≠[]):∃P,W9 (pos 97) [.p q 0,.p c 0,.n m] d=A (.b (FH g b j),P)/\AH d P:=by
 let⟨z,a,xv,xt,s,u,x,xG⟩:=box d (.I 1 [.p c 0])
 have xg:∀(i:F->G->R),bl (.p d.next 0) (d.V (.I (Bq (F.I (.p c 0))) (F.I (.p c 0)))) i=i (.p z 0) a:=Dy d (.I 1 [.p c 0]) xv xt;have E:=xi.ext s;have xf:a.Ap q 0=A (Z Ab.c n):=Ay ((s.M xy).t xo) 0;have xc:a.Ap z 0=A (.p c 0):=Ay u 0;have xb:a.Ap c 0=A (.n g.Bc):=Ay E.M 0;have W:AR 5 [Z Ab.c n,.n g.Bc]=A (.pi (Ab.c e)):=by rw[xr];exact CB xs
 have M:Bl 2 [.pi (Ab.c e)]=A (.pi ((Ab.c e).d 2)):=B;have Y:AM a [.pi ((Ab.c e).d 2)]=A (Z Au.c e.Av):=B;have X:A9 4 a [.pi (Au.c b)]=A (.S (Au.c b)):=B;have p:AX 4 (a.V (.I 4 [.i .u8 0,.s [],.n 0,.sn])) [.p a.next 0,.S (Au.c b)]=A (AC,a.V (.I 4 (Au.c b))):=ET B B;have h:AH a (a.V (.I 4 (Au.c b))):=AH.V _ _;have v:(a.V (.I 4 (Au.c b))).M a.next=A (.I 4 (Au.c b)):=by grind
 have y:Lv (a.V (.I 4 (Au.c b))) a.next:=by grind
 have xh:∀(i:F->G->R),bl (.p a.next 0) (a.V (.I 4 [.i .u8 0,.s [],.n 0,.sn])) i=i (.p a.next 0) (a.V (.I 4 [.i .u8 0,.s [],.n 0,.sn])):=λ_=>B;generalize V:a.next=xH at v y p;generalize a.V (.I 4 (Au.c b))=k at h v y p;have r:=E.ext h;have xd:k.Ap z 0=A (.p c 0):=Ay ((h.M x).t u) 0;have xa:k.Ap c 6=A N:=Ay r.M 6;let⟨xk,t⟩:=CD (f:=Be) (w:=1) (λ_=>B) r.AS S
 have xe:AM k [.p xk (m*1)]=A (.n j):=by have:=t.Ap (f:=Be) (λ_=>B) S (b:=0) (by grind);exact this
 have I:=s.AI h;by_cases l:j>0;.refine⟨k,AZ B B ?_,I⟩;unfold FH;rw[Af l,Np.1];simp only[↓xg,↓xh,↓H M,↓H Y,↓Q,↓QT,↓H xf,↓H xc,↓H xb,↓H W,↓H (Fa U),↓H X,V,↓H p,↓H xd,↓H xa,↓H t.ia,↓H xe,l]
 .let⟨xp,xF,xj⟩:=AaL r ((h.M x).t u) (h.lv x) v y xu xw xq j l
  refine⟨xp,AZ B B ?_,I.AI xj⟩;rw[Np.1];simp only[↓xg,↓xh,↓H M,↓H Y,↓Q,↓QT,AdM,↓H xf,↓H xc,↓H xb,↓H W,↓H (Fa U),↓H X,V,↓H p,↓H xd,↓H xa,↓H t.ia,↓H xe,l];grind
structure Ai where
 Ac:C AK
 Am:C AE
 round:K
 AA:K
structure Lm where
 r:T
 cv:F
 mv:F
 cs:D->F
 ws:D->F
 pc:D->T
 pv:D->F
 ov:D->F
 fv:D->F
 gv:D->F
 og:D->D->F
 gg:D->D->F
def TB(b:D->T)(a:D):C F:=[.p (b a) 0]
structure EB(e:T->Bm)(c:G)(k:C Ab)(i:C Bx)(j:D)(f:T)(d:Ai)(a:Lm):Prop where
 M:c.M f=A (.I 6 [Z Ab.c k,.m a.r,a.cv,a.mv,.n d.round,.n d.AA])
 lv:Lv c f
 B3:e f=.Ex
 Bn:c.M a.r=A (.Bn i j)
 GM:Lv c a.r
 F0:e a.r=.Bn
 Ac:Aw c a.cv (TB a.pc) 1 (List.range d.Ac.l)
 Ir:Tg e a.cv .Ac
 Am:CY c a.mv a.cs a.ws d.Am
 Is:∀h,B8 a.mv a.cs a.ws d.Am.l h->e h=.Am
 BC:∀(b:D) g,d.Ac[b]? =A g->C6 e c b (a.pc b) g (a.pv b) (a.ov b) (a.fv b) (a.gv b) (a.og b) (a.gg b)
def EB.Ar{j:T->Bm}{h i:G}{n:C Ab}{k:C Bx}{m:D}{g:T}{e:Ai}{f:Lm}(a:EB j h n k m g e f)(c:∀b,Lv h b->j b≠.C5->i.M b=h.M b/\Lv i b):EB j i n k m g e f where
 M:=(c g a.lv (by rw[a.B3];decide)).1.t a.M
 lv:=(c g a.lv (by rw[a.B3];decide)).2
 B3:=a.B3
 Bn:=(c f.r a.GM (by rw[a.F0];decide)).1.t a.Bn
 GM:=(c f.r a.GM (by rw[a.F0];decide)).2
 F0:=a.F0
 Ac:=a.Ac.Ar λb d s=>c b d (by rw[a.Ir b s];decide)
 Ir:=a.Ir
 Am:=a.Am.Ar λb d q=>c b d (by rw[a.Is b q];decide)
 Is:=a.Is
 BC:=λr o p=>(a.BC r o p).Ar λb d l=>by have:=c b d (by intro e;rw[e]at l;exact l);exact⟨this.1,this.2,B⟩
def EB.ext{i:T->Bm}{e:G}{h:C Ab}{c:C Bx}{g:D}{k:T}{b:Ai}{j:Lm}(l:EB i d h c g k b j)(a:AH d e):EB i e h c g k b j:=l.Ar λm f _=>⟨a.M f,a.lv f⟩
def P2(f:C Ab)(c:AK):Prop:=∃(d:D)(b:Ab),c.Bc=(d:K)/\f[d]? =A b/\c.AS.l=b.Av.l/\b.Av.l<=1000000/\∀a∈b.Av,a.A3.l<1000000/\(∀e∈a.A3,∃g,H0 c e=A g)/\(a.op=8\/a.op=9->a.A3≠[])
def IP(e:C Ab)(a:AK)(b:D):Ah:=match e[a.Bc.n]?with
 |some c=>match c.Av[b]?,a.AS[b]?with
  |some f,A d=>FH a f d
  |_,_=>Aa
 |none=>Aa
def Kf(e:C Ab)(a:AK)(b d:D):C A5:=((List.range d).filter (IP e a)).m λ(c:D)=>⟨(b:K),(c:K)⟩
def cv(c:C _)(b:AK)(d a:D):Kf c b d (a+1)=Kf c b d a++(if IP c b a=L then[⟨d,a⟩]else[]):=by unfold Kf;rw[AeX,List.filter_append,Aes];congr 1;cases e:IP c b a<;>simp[e]
def Yo(c:C Ab)(b:AK)(d a:D):(Kf c b d a).l<=a:=by unfold Kf;rw[Ad9];have:=List.length_filter_le (IP c b) (List.range a);rw[Ad0]at this;grind
def rD{xn:T->Bm}{e:G}{a:D}{k t:T}{b:AK}{xm xl xc xe:F}{xk xd:D->F}(xI:C6 xn e a t b xm xl xc xe xk xd){j:C Ab}{xo:C F}(xJ:e.M k=A (.I 6 (Z Ab.c j::xo)))(xO:Lv e k)(xE:P2 j b){u:C A5}(xK:u.l<=400000000){d:F}(W:Aw e d A5.c 2 u){g:G}(xq:AH g e)(r:Dx g d)(v z:F)(xp:C6 xn g a t b xm xl xc xe xk xd)(xx:g.M k=A (.I 6 (Z Ab.c j::xo)))(xj:Lv g k):∃p R,jj W9 52 4 [.n b.AS.l,.p t 0,.n a,.n 0,.n a,v,z,.p k 0,d] e=jj W9 52 3 [.n a,v,z,.p k 0,p] R/\Aw R p A5.c 2 (u++Kf j b a b.AS.l)/\AH g R/\Dx g p:=by
 let⟨xs,X,xf,xg,xN,xL,xA⟩:=xE
 let⟨p,m,S,xD,q,xw⟩:=Dh (h:=b.AS.l) (f:=λc d m=>jj W9 52 4 [.n b.AS.l,.p t 0,.n a,.n c,.n a,v,z,.p k 0,d] m) (g:=λc d m=>Aw m d A5.c 2 (u++Kf j b a c)/\AH g m/\Dx g d)
  (λc d m xi xr=>by
   let⟨W,q,r⟩:=xr
   let⟨xb,xh⟩:=Bb xi
   let⟨V,U⟩:=Bb (b:=X.Av) (a:=c) (by omega)
   let⟨xF,xG,xH⟩:=xA V (AdU U)
   have Y:=Cm xi
   let⟨xy,P,H⟩:=rb (xp.ext q) ((q.M xj).t xx) (q.lv xj) xf xg U xh xF xG xH
   have xB:IP j b c=FH b V xb:=by unfold IP;rw[xf];show(match j[xs]?with|some X=>_|none=>Aa)=_;rw[xg];simp only[U,xh]
   have N:=cv j b a c
   rw[xB]at N
   cases M:FH b V xb with
   |true=>
    rw[M]at P;rw[M,Af B]at N;have xM:=Yo j b a c;have xv:Cb [(.n 0),(.n 0)] [(0,1),(1,1)] [.n a,.n c]=A (.S (A5.c ⟨a,c⟩)):=B;let⟨p,xz,xC,xP,xa,xt⟩:=FJ (f:=A5.c) (w:=2) (b:=⟨a,c⟩) (o:=.S (A5.c ⟨a,c⟩)) (h:=16) (λ_=>B) B B (W.ext H) (DG (by grind))
    have J:=q.AI H;refine⟨p,xz,?_,by grind,λE o=>⟨(xa.M (J.lv o) (r E o)).t (J.M o),xa.lv (J.lv o) (r E o)⟩,λE o=>xt E (J.lv o) (r E o)⟩;rw[LK.2.2.2.2.2.1];simp only[QY,Y,LK.2.2.2.2.2.2.1,P,xv,xC,LK.2.2.2.2.2.2.2,Bh (a:=c) (by omega)]
   |false=>rw[M]at P;rw[M,Ad (by grind),Ad5]at N;refine⟨d,xy,?_,by rw[N];exact W.ext H,q.AI H,r⟩;rw[LK.2.2.2.2.2.1];simp only[QY,Y,LK.2.2.2.2.2.2.1,P,LK.2.2.2.2.2.2.2,Bh (a:=c) (by omega)])
  (b:=d) (a:=e) ⟨by show Aw e d A5.c 2 (u++[]);rw[Ad5];grind,xq,r⟩
 have S:jj W9 52 4 [.n b.AS.l,.p t 0,.n a,.n 0,.n a,v,z,.p k 0,d] e=jj W9 52 4 [.n b.AS.l,.p t 0,.n a,.n b.AS.l,.n a,v,z,.p k 0,p] m:=S;have xu:=CA b.AS.l;refine⟨p,m,?_,xD,q,xw⟩;rw[S,LK.2.2.2.2.2.1];simp only[↓Q,↓QT,AdM,xu]
def JG(d:C Ab)(c:C AK):D->C A5
 |0=>[]
 |a+1=>JG d c a++(match c[a]?with|some b=>Kf d b a b.AS.l|none=>[])
def cb{d:C _}{c:C AK}(f:∀b∈c,P2 d b)(e:D)(h:1000000<=e):∀a,(JG d c a).l<=a*e
 |0=>by rw[Nat.zero_mul];exact CK _
 |a+1=>by
  have j:=cb f e h a
  have g:(JG d c (a+1)).l=(JG d c a).l+(match c[a]?with|some b=>Kf d b a b.AS.l|none=>[]).l:=AdY
  rw[g,Afe]
  refine Nat.add_le_add j ?_
  cases i:c[a]?with
  |none=>grind
  |some b=>
   let⟨k,l,_,_,m,n,_⟩:=f b (AdU i)
   exact Aem (Yo d b a b.AS.l) (by omega)
def qM{xd:T->Bm}{l:C Ab}{V:C Bx}{xa:D}{m:T}{a:Ai}{g:Lm}(j:EB xd d l V xa m a g)(J:∀k∈a.Ac,P2 l k)(xi:a.Ac.l<=400):∃b v,W9 (pos 52) [.p m 0] d=A (b,v)/\Aw v b A5.c 2 (JG l a.Ac a.Ac.l)/\AH d v/\Dx d b:=by
 have xe:=j.M;have E:=Cp j.Ac;rw[Ad0]at E;let⟨b,e,x,xb,p,W⟩:=Dh (h:=a.Ac.l) (f:=λc b e=>jj W9 52 2 [.n a.Ac.l,g.cv,.p m 0,.n c,b] e) (g:=λc b e=>Aw e b A5.c 2 (JG l a.Ac c)/\AH d e/\Dx d b)
  (λc b e t R=>by
   let⟨xc,p,Y⟩:=R
   let⟨k,r⟩:=Bb t
   have xf:=Cm t;have q:=j.ext p;let⟨S,y⟩:=CD (f:=TB g.pc) (w:=1) (λ_=>B) q.Ac (F9 t)
   have xm:AM e [.p S (c*1)]=A (.p (g.pc c) 0):=by have:=y.Ap (f:=TB g.pc) (λ_=>B) (F9 t) (b:=0) (by grind);exact this
   have u:=q.BC c k r;have xl:=u.M;have xj:=Cp u.AS;have xh:=cb J 1000000 (CK _) c;let⟨N,z,xg,xk,P,X⟩:=rD u q.M q.lv (J k (AdU r)) (by omega) xc p Y (.n a.Ac.l) g.cv (j.BC c k r) j.M j.lv
   refine⟨N,z,?_,?_,P,X⟩;.show jj W9 52 2 _ _=jj W9 52 2 _ _;rw[LK.2.2.1];simp only[QY,LK.2.2.2.1,H y.ia,LK.2.2.2.2.1,H (Bh (a:=c) (by omega)), *]
   .show Aw z N A5.c 2 (JG l a.Ac c++_);rw[r];grind)
  (b:=.sn) (a:=d) ⟨Aw.sn d,λM Z=>⟨B,Z⟩,λM _=>Cg M⟩
 have x:jj W9 52 2 [.n a.Ac.l,g.cv,.p m 0,.n 0,.sn] d=jj W9 52 2 [.n a.Ac.l,g.cv,.p m 0,.n a.Ac.l,b] e:=x;have U:=CA a.Ac.l;refine⟨b,e,AZ B B ?_,xb,p,W⟩;rw[LK.1];simp only[QY,xe,E];rw[x,LK.2.2.1];simp only[↓Q,↓QT,AdM,U,LK.2.1]
def Bs(a:AK)(b:AF):N:=(H0 a b).g AO
def EQ:BA:=⟨0,Aa,Aa⟩
def Dl(c:C Ab)(a:Ab)(d f e g:K):AK:=
 ⟨d,f,e,g,BG a.An.n AO,a.Av.m λb=>BG (C7 c b).n AO,BG a.Av.l 0,-1,a.Av.m λb=>BG (C7 c b).n EQ⟩
def Ai.AJ(a:Ai)(c:D)(b:AK):Ai:=⟨a.Ac.set c b,a.Am,a.round,a.AA⟩
def EO(d:C Ab)(a:Ai)(b f e h:K)(g:N):Ai×K:=
 if a.Ac.l=400 then(a,5)else match d[b.n]?with
 |some c=>(⟨a.Ac++[{Dl d c b f e h with An:=(BG c.An.n AO).set 0 g}],a.Am,a.round,a.AA⟩,0)
 |none=>(a,0)
def FG(a:AK)(b:D)(c:N):AK×Ah:=
 if c.Ak=0\/((a.An[b]?).g AO).Ak≠0 then(a,Aa)else({a with An:=a.An.set b c},L)
def Dc(b:AF->N)(d:C AF)(c:AK):D->AK×Ah
 |0=>(c,Aa)
 |a+1=>match d[a]?with
  |some e=>((FG (Dc b d c a).1 a (b e)).1,(FG (Dc b d c a).1 a (b e)).2||(Dc b d c a).2)
  |none=>Dc b d c a
def CP{b:Type}(a:C (C b))(c d:D)(f:b):C (C b):=match a[c]?with
 |some e=>a.set c (e.set d f)
 |none=>a
def AK.AD(a:AK)(b c:D)(d:N):AK:={a with AG:=CP a.AG b c d}
def Ek(a:AK)(b c:D):BA:=(((a.A4[b]?).g [])[c]?).g EQ
def CZ(a:AK)(b c:D)(e:N)(d:BA):AK×Ah×K:=
 if Ek a b c=d then(a,Aa,0)else if(Ek a b c).is=L then(a,Aa,6)
 else({a with A4:=CP a.A4 b c d,AG:=CP a.AG b c e},L,0)
def Ce(b:D->N)(d:D)(c:BA)(e:AK):D->AK×Ah×K
 |0=>(e,Aa,0)
 |a+1=>
  if(Ce b d c e a).2.2≠0\/(b a).Ak=0 then Ce b d c e a
  else if(CZ (Ce b d c e a).1 d a (b a) c).2.2≠0 then((Ce b d c e a).1,(Ce b d c e a).2.1,(CZ (Ce b d c e a).1 d a (b a) c).2.2)
  else((CZ (Ce b d c e a).1 d a (b a) c).1,(Ce b d c e a).2.1||(CZ (Ce b d c e a).1 d a (b a) c).2.1,0)
def Zi:AK:=⟨0,-1,0,0,[],[],[],-1,[]⟩
def Ai.at(a:Ai)(b:D):AK:=(a.Ac[b]?).g Zi
def dP:Ab:=⟨[],0,[],[],[]⟩
def F4(b:C Ab)(a:AK):Ab:=(b[a.Bc.n]?).g dP
def bv:Au:=⟨0,[],0,[]⟩
def Fx(d:C Ab)(a:AK)(c:D):N:=match(F4 d a).Bk[c]?with|some b=>Bs a b|none=>AO
def Z3:AF:=⟨0,0⟩
def Et(b:C Ab)(a:AK):N:=Bs a (((F4 b a).A_[0]?).g Z3)
def JI(b:Ai)(e:D)(f:N):Ai×Ah×K:=
 let a:=b.at e
 let c:=a.AP.n
 let d:=Ce (λ_=>f) a.Ax.n ⟨a.Az,L,L⟩ (b.at c) (((b.at c).AG[a.Ax.n]?).g []).l
 (b.AJ c d.1,d.2)
def Gu(e:C Ab)(b:Ai)(d:D):Ai×Ah×K:=
 let a:=b.at d
 if a.next= -1 then
  let c:=EO e b a.Bc a.AP a.Ax (a.Az+1) (Et e a)
  if c.2≠0 then(b,Aa,c.2)else(c.1.AJ d {a with next:=(b.Ac.l:K)},L,0)
 else(b,Aa,0)
def Gv(c:C Ab)(b:Ai)(e:D):Ai×Ah:=
 let a:=b.at e
 let d:=Dc (Bs a) (F4 c a).A_ (b.at a.next.n) (F4 c a).A_.l
 (b.AJ a.next.n d.1,d.2)
def ER(a:C Ab)(b:Ai)(c:D):Ai×Ah×K:=
 let e:=b.at c
 if(Et a e).Ak=0 then(b,Aa,0)
 else if(Et a e).Ak=5 then JI b c (Et a e)
 else
  let d:=Gu a b c
  if d.2.2≠0 then d
  else
   let f:=Gv a d.1 c
   (f.1,f.2||d.2.1,0)
def QF(c:C Ab)(a:AK)(b:D):C AF:=(((F4 c a).Av[b]?).g bv).A3
def Cj(e:C Ab)(b:Ai)(d:D):Ai×Ah:=
 let a:=b.at d
 if a.Az>0 then(b,Aa)
 else
  let c:=b.at a.AP.n
  let f:=Dc (Bs c) (QF e c a.Ax.n) a (QF e c a.Ax.n).l
  (b.AJ d f.1,f.2)
def EU(c:C Ab)(b:Ai)(f:D):Ai×Ah×K:=
 let a:=b.at f
 let d:=a.AP.n
 let e:=Ce (Fx c a) a.Ax.n ⟨a.Az,Aa,L⟩ (b.at d) (F4 c a).Bk.l
 (b.AJ d e.1,e.2)
def El(e:C Ab)(d:Ai)(b:D):Ai×Ah×K:=
 if(d.at b).AP= -1 then(d,Aa,0)
 else
  let c:=Cj e d b
  let a:=EU e c.1 b
  if a.2.2≠0 then(a.1,c.2,a.2.2)
  else if(F4 e (d.at b)).A_.l=0 then(a.1,c.2||a.2.1,0)
  else
   let f:=ER e a.1 b
   (f.1,(c.2||a.2.1)||f.2.1,f.2.2)
def B9(b:C Ab)(c:Ai):D->Ai×Ah×K
 |0=>(c,Aa,0)
 |a+1=>
  if(B9 b c a).2.2≠0\/¬a<(B9 b c a).1.Ac.l then B9 b c a
  else((El b (B9 b c a).1 a).1,(B9 b c a).2.1||(El b (B9 b c a).1 a).2.1,(El b (B9 b c a).1 a).2.2)
def IF(a:C Ab)(b:D):D->Ai->Ae (Ai×K)
 |0,_=>O
 |d+1,c=>
  if(B9 a c b).2.2≠0 then A ((B9 a c b).1,(B9 a c b).2.2)
  else if(B9 a c b).2.1=L then IF a b d (B9 a c b).1
  else A ((B9 a c b).1,0)
def HB(b:AK)(a:Au):Ah:=Ao (a.op=6)&&(!Ao ((Bs b ((a.A3[0]?).g Z3)).Ak=0)&& !Ao ((Bs b ((a.A3[1]?).g Z3)).Ak=0))
def PC(c:C Ab)(b:Ai):K:=if(b.Ac.any λa=>(F4 c a).Av.any (HB a))=L then 6 else 0
def Ib(b:C Ab)(d e:D)(c:Ai):Ae (Ai×K):=match IF b d e c with
 |some a=>A (if a.2≠0 then a else(a.1,PC b a.1))
 |none=>O
def Ai.AD(a:Ai)(b c d:D)(e:N):Ai:=a.AJ b ((a.at b).AD c d e)
def HY(b:Ai)(a:Bz):Ai:=b.AD (a.Ct/1000).n (a.Ct % 1000).n 0 a.v
def Eh(a:Ai)(b:ED):Ai×N×K:=
 if(BE a.Am b).e≠0 then(a,AO,(BE a.Am b).e)
 else((BE a.Am b).F1.foldl HY ⟨a.Ac,(BE a.Am b).m,a.round,a.AA⟩,(BE a.Am b).v,0)
def Cu(a:C N)(b:D):N:=(a[b]?).g AO
def E7(c:Ai)(d:A5)(b:Au)(a:C N):Ai×N×K:=
 if b.op=4 then(c,Kc b.A8 a,0)
 else if b.op=6 then(c,(if(Cu a 0).Ak=0 then Cu a 1 else Cu a 0),0)
 else if b.op=7 then(c,Cu a 0,0)
 else if b.op=10 then Eh c ⟨1,Cu a 0,AO,AO,0⟩
 else if b.op=12 then Eh c ⟨3,Cu a 0,Cu a 1,AO,1000*d.FE+d.Ax⟩
 else if b.op=13 then Eh c ⟨4,Cu a 0,AO,AO,0⟩
 else if b.op=14 then(c,Na (Cu a 0),0)
 else(c,M_ b (Cu a 0),0)
def Nb(e:C Ab)(c:Ai)(a:A5)(f:Au)(d:N):Ai×K:=
 if d.Ak≠5 then EO e c (CH e f.A8) a.FE a.Ax 0 d
 else
  let b:=c.at a.FE.n
  (c.AJ a.FE.n {b with AG:=b.AG.set a.Ax.n (((b.AG[a.Ax.n]?).g []).m λ_=>d)},0)
def DO(a:Ai)(b:A5)(d:K):Ai:=
 let c:=a.at b.FE.n
 ⟨a.Ac.set b.FE.n {c with AS:=c.AS.set b.Ax.n d},a.Am,a.round,a.AA+1⟩
def F6(j:C Ab)(f:Ai)(e:A5)(k:K):Ai×K:=
 if f.AA=6000 then(f,5)
 else
  let d:=DO f e k
  let g:=e.FE.n
  let h:=e.Ax.n
  let i:=d.at g
  let c:=((F4 j i).Av[h]?).g bv
  let a:=c.A3.m (Bs i)
  if c.op=8\/c.op=9 then Nb j d e c (Cu a 0)
  else if c.op=11 then
   let b:=Eh d ⟨2,Cu a 0,Cu a 1,Cu a 2,0⟩
   (b.1,b.2.2)
  else if c.op=5 then(d.AD g h (FZ (Cu a 0) (Cu a 1)).1.n (FZ (Cu a 0) (Cu a 1)).2,0)
  else
   let b:=E7 d e c a
   if b.2.2≠0 then(b.1,b.2.2)else(b.1.AD g h 0 b.2.1,0)
def C3(c:C Ab)(e:C A5)(d:K)(a:Ai):D->Ai×K
 |0=>(a,0)
 |b+1=>if(C3 c e d a b).2≠0 then C3 c e d a b else match e[b]?with
  |some f=>F6 c (C3 c e d a b).1 f d
  |none=>C3 c e d a b
def Br(b:C Ab)(a:Ai):C A5:=JG b a.Ac a.Ac.l
def KH(b:C Ab)(e f:D)(a:Ai):Ae (Ai×K):=
 let d:Ai:=⟨a.Ac,a.Am,a.round+1,a.AA⟩
 let c:=C3 b (Br b a) (a.round+1) d (Br b a).l
 if c.2≠0 then A c else Ib b e f c.1
def HW(b:C Ab)(d e:D):D->Ai->Ae (Ai×K)
 |0,_=>O
 |f+1,a=>if(Br b a).l=0 then A (a,0)else match KH b d e a with
  |some c=>if c.2≠0 then A c else HW b d e f c.1
  |none=>O
theorem TK{f:Type}{b:C _}{a:D}{d:C _}(h:b[a]? =A d)(k:D)(e:f):CP b a k e=b.set a (d.set k e):=by unfold CP;grind
theorem Ik{e:Type}{b:C e}{i:D}{f t:e}(l:b[i]? =A f){a:D}{d:e}(h:(b.set i t)[a]? =A d):(a=i/\d=t)\/(a≠i/\b[a]? =A d):=by grind
section
variable{s:T->Bm} {h:G} {i:D} {p:T} {c:AK} {g j n m:F} {q r:D->F}
def EM(s:T->Bm)(h w:G)(t:Bm):Prop:=∀a,Lv h a->s a≠t->w.M a=h.M a/\Lv w a
theorem Rr{w:G}{b:T}{t:Bm}(o:s b=t)(l:∀a,a≠b->w.M a=h.M a)(e:∀a,Lv w a=Lv h a):EM s h w t:=λa d f=>⟨P,by grind⟩
theorem XY{z:Type}{d:z->C _}{a:D}(x:∀o,(d o).l=a){y:F}{E:C z}{t:Bm}(f:Aw h y d a E)(S:Tg s y t){e:D}{o:z}(v:E[e]? =A o){G:z}{H:F}(Q:H.I=d G)(J:BU (d G)=L):∃b w,AR a [y,.n e]=A (.p b (e*a))/\(∀f,f<a->h.Ap b (e*a+f)=(d o)[f]?)/\h.AL b (e*a) a=A (d o)/\AX a h [.p b (e*a),H]=A (AC,w)/\Aw w y d a (E.set e G)/\EM s h w t:=by
 let⟨b,l⟩:=CD x f v
 let⟨I,R⟩:=l.set x f v Q J
 exact⟨b,_,l.ia,λf M=>l.Ap x v M,l.AL x v,I,R,Rr (S b l.nb) (λT N=>by rw[AN,Ad N]) P⟩
section
variable{w:G} {t:Bm} (u:C6 s h i p c g j n m q r) (k:EM s h w t)
include u k
theorem C6.kc(a:t≠.BC i):w.M p=h.M p/\Lv w p:=k p u.lv (by rw[u.B3];grind)
theorem C6.kp(e:t≠.An i):Aw w g N.c 2 c.An:=u.An.Ar λa d b=>k a d (by rw[u.Fr a b];grind)
theorem C6.ko(e:t≠.AG i):Aw w j (EE q) 1 (List.range c.AG.l):=u.AG.Ar λa d b=>k a d (by rw[u.Jl a b];grind)
theorem C6.kf(e:t≠.AS i):Aw w n Be 1 c.AS:=u.AS.Ar λa d b=>k a d (by rw[u.Fq a b];grind)
theorem C6.kg(e:t≠.A4 i):Aw w m (EE r) 1 (List.range c.A4.l):=u.A4.Ar λa d b=>k a d (by rw[u.Jk a b];grind)
theorem C6.kx(a:D)(b:C _)(d:c.AG[a]? =A b)(o:t≠.AD i a):Aw w (q a) N.c 2 b/\Tg s (q a) (.AD i a):=⟨(u.AD a b d).1.Ar λe l f=>k e l (by rw[(u.AD a b d).2 e f];grind),(u.AD a b d).2⟩
theorem C6.ky(a:D)(b:C _)(d:c.A4[a]? =A b)(o:t≠.B1 i a):Aw w (r a) BA.c 3 b/\Tg s (r a) (.B1 i a):=⟨(u.B1 a b d).1.Ar λe l f=>k e l (by rw[(u.B1 a b d).2 e f];grind),(u.B1 a b d).2⟩
end
theorem C6.Yi(u:C6 s h i p c g j n m q r){a:D}{v:N}(H:c.An[a]? =A v)(d:N):∃b w,AR 2 [g,.n a]=A (.p b (a*2))/\h.Ap b (a*2)=A (.i .u8 v.Ak)/\h.AL b (a*2) 2=A (N.c v)/\AX 2 h [.p b (a*2),.S (N.c d)]=A (AC,w)/\C6 s w i p {c with An:=c.An.set a d} g j n m q r/\EM s h w (.An i):=by
 let⟨b,w,x,E,F,G,I,k⟩:=XY (d:=N.c) (λ_=>B) u.An u.Fr H (G:=d) (H:=.S (N.c d)) B B
 exact⟨b,_,x,E 0 (by grind),F,G,⟨(u.kc k (by simp)).1.t u.M,(u.kc k (by simp)).2,u.B3,I,u.Fr,u.ko k (by simp),u.Jl,λl o e=>u.kx k l o e (by simp),u.kf k (by simp),u.Fq,u.kg k (by simp),u.Jk,λl o e=>u.ky k l o e (by simp)⟩,k⟩
theorem C6.cp(u:C6 s h i p c g j n m q r){a:D}{G:K}(E:c.AS[a]? =A G)(d:K):∃b w,AR 1 [n,.n a]=A (.p b (a*1))/\AX 1 h [.p b (a*1),.n d]=A (AC,w)/\C6 s w i p {c with AS:=c.AS.set a d} g j n m q r/\EM s h w (.AS i):=by
 let⟨b,w,v,_,_,x,F,k⟩:=XY (d:=Be) (λ_=>B) u.AS u.Fq E (G:=d) (H:=.n d) B B
 exact⟨b,w,v,x,⟨(u.kc k (by simp)).1.t u.M,(u.kc k (by simp)).2,u.B3,u.kp k (by simp),u.Fr,u.ko k (by simp),u.Jl,λl o e=>u.kx k l o e (by simp),F,u.Fq,u.kg k (by simp),u.Jk,λl o e=>u.ky k l o e (by simp)⟩,k⟩
theorem C6.PP(u:C6 s h i p c g j n m q r){a b:D}{v:C N}{J:N}(l:c.AG[a]? =A v)(S:v[b]? =A J)(d:N):∃E x w,AR 1 [j,.n a]=A (.p E (a*1))/\AM h [.p E (a*1)]=A (q a)/\AR 2 [q a,.n b]=A (.p x (b*2))/\h.AL x (b*2) 2=A (N.c J)/\AX 2 h [.p x (b*2),.S (N.c d)]=A (AC,w)/\C6 s w i p (c.AD a b d) g j n m q r/\EM s h w (.AD i a):=by
 have G:=F9 (AdN.1 l).1;let⟨E,F⟩:=CD (f:=EE q) (λ_=>B) u.AG G
 let⟨x,w,P,_,Q,R,V,k⟩:=XY (d:=N.c) (λ_=>B) (u.AD a v l).1 (u.AD a v l).2 S (G:=d) (H:=.S (N.c d)) B B
 have H:(c.AD a b d).AG=c.AG.set a (v.set b d):=TK l b d;refine⟨E,x,w,F.ia,F.Ap (f:=EE q) (λ_=>B) G (b:=0) (by grind),P,Q,R,⟨(u.kc k (by simp)).1.t u.M,(u.kc k (by simp)).2,u.B3,u.kp k (by simp),u.Fr,by rw[H,Aed];exact u.ko k (by simp),u.Jl,λI U e=> ?_,u.kf k (by simp),u.Fq,u.kg k (by simp),u.Jk,λa T e=>u.ky k a T e (by simp)⟩,k⟩;rw[H]at e;rcases Ik l e with⟨rfl,rfl⟩|⟨W,e⟩;.exact⟨V,(u.AD I v l).2⟩
 .exact u.kx k I U e (by grind)
theorem C6.w8(u:C6 s h i p c g j n m q r){a b:D}{v:C BA}{F:BA}(l:c.A4[a]? =A v)(S:v[b]? =A F)(x:BA):∃E d w,AR 1 [m,.n a]=A (.p E (a*1))/\AM h [.p E (a*1)]=A (r a)/\AR 3 [r a,.n b]=A (.p d (b*3))/\h.AL d (b*3) 3=A (BA.c F)/\h.Ap d (b*3+2)=A (.b F.is)/\AX 3 h [.p d (b*3),.S (BA.c x)]=A (AC,w)/\C6 s w i p {c with A4:=CP c.A4 a b x} g j n m q r/\EM s h w (.B1 i a):=by
 have H:=F9 (AdN.1 l).1;let⟨E,G⟩:=CD (f:=EE r) (λ_=>B) u.A4 H
 let⟨d,w,N,P,Q,R,V,k⟩:=XY (d:=BA.c) (λ_=>B) (u.B1 a v l).1 (u.B1 a v l).2 S (G:=x) (H:=.S (BA.c x)) B B
 have I:=TK l b x;refine⟨E,d,w,G.ia,G.Ap (f:=EE r) (λ_=>B) H (b:=0) (by grind),N,Q,P 2 (by grind),R,⟨(u.kc k (by simp)).1.t u.M,(u.kc k (by simp)).2,u.B3,u.kp k (by simp),u.Fr,u.ko k (by simp),u.Jl,λa T e=>u.kx k a T e (by simp),u.kf k (by simp),u.Fq,by rw[I,Aed];exact u.kg k (by simp),u.Jk,λJ U e=> ?_⟩,k⟩;rw[I]at e;rcases Ik l e with⟨rfl,rfl⟩|⟨W,e⟩;.exact⟨V,(u.B1 J v l).2⟩
 .exact u.ky k J U e (by grind)
theorem C6.RH(u:C6 s h i p c g j n m q r)(a:K):∃w,AX 1 h [.p p 7,.n a]=A (AC,w)/\C6 s w i p {c with next:=a} g j n m q r/\EM s h w (.BC i):=by have k:EM s h (h.set p (.I 9 (Dg 7 [.n a] [.n c.Bc,.n c.AP,.n c.Ax,.n c.Az,g,j,n,.n c.next,m]))) (.BC i):=Rr u.B3 (λl f=>by rw[AN,Ad f]) P;exact⟨_,Gx (d:=7) (a:=.n a) u.M (by omega) (by omega) B B,⟨by rw[AN,Af B];rfl,by rw[K9];exact u.lv,u.B3,u.kp k (by simp),u.Fr,u.ko k (by simp),u.Jl,λd e b=>u.kx k d e b (by simp),u.kf k (by simp),u.Fq,u.kg k (by simp),u.Jk,λd e b=>u.ky k d e b (by simp)⟩,k⟩
end
theorem EB.NI{s:T->Bm}{h w:G}{E:C _}{y:C Bx}{k:D}{l:T}{b:Ai}{d:Lm}(a:EB s h E y k l b d){i:D}{c o:AK}{t:Bm}(H:b.Ac[i]? =A c)(f:t.of i)(e:EM s h w t)(R:C6 s w i (d.pc i) o (d.pv i) (d.ov i) (d.fv i) (d.gv i) (d.og i) (d.gg i)):EB s w E y k l (b.AJ i o) d where
 M:=(e l a.lv (by rw[a.B3];intro b;subst b;exact f)).1.t a.M
 lv:=(e l a.lv (by rw[a.B3];intro b;subst b;exact f)).2
 B3:=a.B3
 Bn:=(e _ a.GM (by rw[a.F0];intro b;subst b;exact f)).1.t a.Bn
 GM:=(e _ a.GM (by rw[a.F0];intro b;subst b;exact f)).2
 F0:=a.F0
 Ac:=by show Aw _ _ _ 1 (List.range (b.Ac.set i o).l);rw[Aed];exact a.Ac.Ar λp x P=>e p x (by rw[a.Ir p P];intro b;subst b;exact f)
 Ir:=a.Ir
 Am:=a.Am.Ar λp x I=>e p x (by rw[a.Is p I];intro b;subst b;exact f)
 Is:=a.Is
 BC:=λN F v=>by
  rcases Ik H v with⟨rfl,rfl⟩|⟨S,v⟩;.grind
  .exact(a.BC N F v).Ar λQ J z=>by
    have:=e Q J (by intro b;rw[b]at z;cases t<;>simp only[Bm.of]at f z<;>grind)
    grind
structure CI where
 l:C Ab
 es:C Bx
 k:D
 x:T
def B_(a:CI)(h:G)(e:Ai)(f:D->T)(d:T->Prop):Prop:=∃s b,EB s h a.l a.es a.k a.x e b/\b.pc=f/\∀p,d p->Lv h p/\s p=.C5
theorem EB.TG{s x:T->Bm}{h w:G}{o:C _}{f:C Bx}{k:D}{d:T}{e:Ai}{y:Lm}(a:EB s h o f k d e y)(b:∀p,Lv h p->w.M p=h.M p/\Lv w p/\x p=s p):EB x w o f k d e y where
 M:=(b d a.lv).1.t a.M
 lv:=(b d a.lv).2.1
 B3:=(b d a.lv).2.2.t a.B3
 Bn:=(b _ a.GM).1.t a.Bn
 GM:=(b _ a.GM).2.1
 F0:=(b _ a.GM).2.2.t a.F0
 Ac:=a.Ac.Ar P
 Ir:=λp v=>(b p (a.Ac.Cz v)).2.2.t (a.Ir p v)
 Am:=a.Am.Ar P
 Is:=λp l=>(b p (a.Am.lv l)).2.2.t (a.Is p l)
 BC:=λi c z=>(a.BC i c z).Ar P
theorem B_.ext{b:CI}{h w:G}{d:Ai}{e:D->T}{a:T->Prop}(l:B_ b h d e a)(f:AH h w):B_ b w d e a:=by
 let⟨s,x,o,v,y⟩:=l
 exact⟨s,x,o.ext f,v,P⟩
def ES(a:T->Prop)(h w:G):T->Prop:=λp=>a p\/(¬Lv h p/\Lv w p)
open Classical in
theorem B_.V {d:CI} {h w:G} {e:Ai} {f:D->T} {b:T->Prop} (l:B_ d h e f b) (y:AH h w):B_ d w e f (ES b h w):=by
 let⟨s,x,o,v,z⟩:=l
 refine⟨λp=>if Lv h p then s p else .C5,x,o.TG P,v,λp a=> ?_⟩;rcases a with a|a<;>grind
theorem B_.sub{d:CI}{h:G}{e:Ai}{f:D->T}{a b:T->Prop}(l:B_ d h e f a)(k:∀p,b p->a p):B_ d h e f b:=by
 let⟨s,x,o,v,y⟩:=l
 exact⟨s,x,o,v,P⟩
def Bo(a:T->Prop)(h w:G):Prop:=∀p,a p->w.M p=h.M p
theorem Bo.refl(a:T->Prop)(h:G):Bo a h h:=λ_ _=>B
theorem Bo.AI{a:T->Prop}{b d c:G}(h:Bo a b d)(k:Bo a d c):Bo a b c:=λp e=>(k p e).t (h p e)
attribute [grind->] Bo.AI
attribute [grind=] Bo ES EM
theorem EM.Fp{u:T->Bm}{h c:G}{d:Bm}(f:EM u h c d)(i:d≠.C5){b:T->Prop}(g:∀a,b a->Lv h a/\u a=.C5):(∀a,b a->Lv c a/\u a=.C5)/\Bo b h c:=
 ⟨P,P⟩
section
variable{u:T->Bm} {h:G} {l:C Ab} {y:C Bx} {k:D} {x:T} {e:Ai} {w:Lm}
theorem EB.Lf(g:EB u h l y k x e w){a:D}{i:AK}(j:e.Ac[a]? =A i):∃b,AR 1 [w.cv,.n a]=A (.p b (a*1))/\h.Ap b (a*1)=A (.p (w.pc a) 0):=by
 have d:=(AdN.1 j).1;let⟨b,c⟩:=CD (f:=TB w.pc) (w:=1) (λ_=>B) g.Ac (F9 d)
 exact⟨b,c.ia,by exact(c.Ap (f:=TB w.pc) (λ_=>B) (F9 d) (b:=0) (by grind))⟩
theorem EB.Yg(a:EB u h l y k x e w){f:G}{j g:K}(n:f.M x=A (.I 6 [Z Ab.c l,.m w.r,w.cv,w.mv,.n j,.n g]))(r:Lv f x)(c:EM u h f .Ex):EB u f l y k x ⟨e.Ac,e.Am,j,g⟩ w where
 M:=n
 lv:=r
 B3:=a.B3
 Bn:=(c _ a.GM (by rw[a.F0];grind)).1.t a.Bn
 GM:=(c _ a.GM (by rw[a.F0];grind)).2
 F0:=a.F0
 Ac:=a.Ac.Ar λb d s=>c b d (by rw[a.Ir b s];grind)
 Ir:=a.Ir
 Am:=a.Am.Ar λb d p=>c b d (by rw[a.Is b p];grind)
 Is:=a.Is
 BC:=λq m o=>(a.BC q m o).Ar λb d i=>by have:=c b d (by intro e;rw[e]at i;exact i);grind
theorem EB.MZ(b:EB u h l y k x e w)(a:K):∃c,AX 1 h [.p x 5,.n a]=A (AC,c)/\EB u c l y k x ⟨e.Ac,e.Am,e.round,a⟩ w/\EM u h c .Ex:=by have f:=Gx (d:=5) (a:=.n a) b.M (by omega) (by omega) B B;have g:Dg 5 [.n a] [Z Ab.c l,.m w.r,w.cv,w.mv,.n e.round,.n e.AA]=[Z Ab.c l,.m w.r,w.cv,w.mv,.n e.round,.n a]:=B;rw[g]at f;have d:EM u h (h.set x (.I 6 [Z Ab.c l,.m w.r,w.cv,w.mv,.n e.round,.n a])) .Ex:=Rr b.B3 (λj i=>by rw[AN,Ad i]) P;exact⟨_,f,b.Yg (by rw[AN,Af B]) (by rw[K9];exact b.lv) d,d⟩
theorem EB.Yj(b:EB u h l y k x e w)(a:K):∃c,AX 1 h [.p x 4,.n a]=A (AC,c)/\EB u c l y k x ⟨e.Ac,e.Am,a,e.AA⟩ w/\EM u h c .Ex:=by have f:=Gx (d:=4) (a:=.n a) b.M (by omega) (by omega) B B;have g:Dg 4 [.n a] [Z Ab.c l,.m w.r,w.cv,w.mv,.n e.round,.n e.AA]=[Z Ab.c l,.m w.r,w.cv,w.mv,.n a,.n e.AA]:=B;rw[g]at f;have d:EM u h (h.set x (.I 6 [Z Ab.c l,.m w.r,w.cv,w.mv,.n a,.n e.AA])) .Ex:=Rr b.B3 (λj i=>by rw[AN,Ad i]) P;exact⟨_,f,b.Yg (by rw[AN,Af B]) (by rw[K9];exact b.lv) d,d⟩
end
theorem DK{e:Ai}{b:D}{a:AK}(h:e.Ac[b]? =A a):e.at b=a:=by unfold Ai.at;grind
def FB(e:Ai)(c d k:D):Prop:=∃a b f,e.Ac[c]? =A a/\a.AG[d]? =A b/\b[k]? =A f
theorem FB.AD{e:Ai}{a b k:D}(h:FB e a b k)(g j m:D)(o:N):FB (e.AD g j m o) a b k:=by
 let⟨z,n,t,c,r,d⟩:=h
 unfold Ai.AD Ai.AJ FB;by_cases p:g=a
 .subst p;have f:=(AdN.1 c).1;rw[DK c];by_cases q:j=b
  .subst q;have E:=(AdN.1 d).1;let⟨v,s⟩:=Bb (b:=n.set m o) (a:=k) (by grind)
   exact⟨_,_,v,Aex f,by unfold AK.AD;rw[TK r];grind,s⟩
  .refine⟨_,n,t,Aex f,?_,d⟩;unfold AK.AD CP;grind
 grind
theorem B_.AD{n:CI}{h:G}{e:Ai}{j:D->T}{m:T->Prop}(F:B_ n h e j m){a b k:D}(R:FB e a b k)(o:N):
  ∃s g v r z f c,h.Ap n.x 2=A s/\AR 1 [s,.n a]=A (.p g (a*1))/\h.Ap g (a*1)=A (.p (j a) 0)/\h.Ap (j a) 5=A v/\AR 1 [v,.n b]=A (.p r (b*1))/\h.Ap r (b*1)=A z/\AR 2 [z,.n k]=A (.p f (k*2))/\
   AX 2 h [.p f (k*2),.S (N.c o)]=A (AC,c)/\B_ n c (e.AD a b k o) j m/\Bo m h c:=by
 obtain⟨u,w,d,rfl,Q⟩:=F
 let⟨I,xc,xd,i,J,M⟩:=R
 let⟨g,U,Y⟩:=d.Lf i
 have p:=d.BC a I i
 let⟨H,f,c,S,X,W,_,Z,E,q⟩:=p.PP J M o
 have xb:=d.NI i (t:=.AD a b) B q E
 have xa:=q.Fp (by grind) Q
 refine⟨w.cv,g,w.ov a,H,w.og a b,f,c,Ay d.M 2,U,Y,Ay p.M 5,S,X,W,Z,⟨u,w,?_,B,P⟩,P⟩
 unfold Ai.AD;rw[DK i];grind
def IY(e:Ai)(c:Bz):Prop:=∃a b:D,c.Ct=((1000*a+b:D):K)/\b<1000/\a<1000/\FB e a b 0
theorem IY.F1{e:Ai}{a:Bz}(h:IY e a)(j:Bz):IY (HY e j) a:=by
 let⟨g,i,b,c,d,f⟩:=h
 exact⟨g,i,b,c,d,f.AD _ _ _ _⟩
theorem IY.AaU{e:Ai}{b:Bz}(h:IY e b):∀a:C Bz,IY (a.foldl HY e) b:=λa=>by
 induction a generalizing e with
 |nil=>grind
 |cons x a c=>exact c (h.F1 x)
theorem cN{e:Ai}{b:Bz}{c a:D}(h:b.Ct=(1000*c+a:D))(d:a<1000):HY e b=e.AD c a 0 b.v:=by unfold HY;grind
theorem i1{a b:D}(c:a<1000)(d:b<1000):A6 .quo [.n (1000*a+b:D),.n 1000]=A (.n a):=by rw[X7 _ _ (by unfold Dk;omega) (by grind),Agd (by omega)];grind
theorem jm{b a:D}(c:b<1000)(d:a<1000):A6 .rem [.n (1000*b+a:D),.n 1000]=A (.n a):=by rw[WL .n _ (by grind),Age (by omega)];grind
theorem oF{f c:Type}{a:c->f->c}{d:c}{l:C _}{b:D}{x:f}(h:l[b]? =A x):(l.t (b+1)).foldl a d=a ((l.t b).foldl a d) x:=by rw[<-FL h,Af0];rfl
theorem px{d:CI}{h:G}{e:Ai}{z:D->T}{g:T->Prop}(Z:B_ d h e z g){o:F}{a:C Bz}(X:Aw h o Bz.c 3 a)(xo:∀m,¬As o m->g m)(xH:a.l<1000000)(xr:∀c∈a,IY e c):∃b,W9 (pos 152) [.p d.x 0,o] h=A (.AB [],b)/\B_ d b (a.foldl HY e) z g/\Bo g h b:=by
 let⟨_,U,r,J,xc⟩:=Dh (h:=a.l) (f:=λj _ h=>jj W9 152 1 [.n a.l,o,.p d.x 0,.n j] h) (g:=λj _ b=>B_ d b ((a.t j).foldl HY e) z g/\Bo g h b)
  (λj _ b W xa=>by
   let⟨q,xb⟩:=xa
   let⟨c,p⟩:=Bb W
   let⟨xd,xe,xn,v,V,xk⟩:=(xr c (AdU p)).AaU (a.t j)
   have xy:=Cm W;have xq:=X.Ar λm xl xp=>⟨xb m (xo m xp),by let⟨_,_,_,_,xi⟩:=q;grind⟩;let⟨xx,M⟩:=CD (f:=Bz.c) (w:=3) (λ_=>B) xq p
   have xN:=M.AL (f:=Bz.c) (λ_=>B) p;let⟨E,t,xm,xj,Y,S,xI,xJ⟩:=box b (.I 3 (Bz.c c))
   have xO:AX 3 (b.V (.I 3 [.n 0,.i .u8 0,.n 0])) [.p E 0,.S (Bz.c c)]=A (AC,t):=by rw[<-xm,<-xj];exact ET B B
   let⟨xz,xv,xK,xw,xs,xf,xh,xA,xB,xC,xD,xE,xF,R,xG,xt,xu⟩:=(q.ext Y).AD xk c.v
   have xL:t.Ap E 0=A (.n (1000*xd+xe:D)):=by rw[Ay S];show A (F.n c.Ct)=_;grind
   have xM:t.AL E 1 2=A (N.c c.v):=by rw[D1 S,Af (by omega),Ad (by omega)];rfl
   have R:AR 2 [xs,.n 0]=A (.p xf 0):=R;refine⟨(),xh,?_,by rw[oF p,cN xn v];grind,λm xl=>by
    let⟨_,_,_,_,xi⟩:=q
    grind⟩
   rw[US.2.1];simp only[QY,US.2.2.1,H M.ia,H (i1 V v),H (jm V v),US.2.2.2,H (Bh (a:=j) (by omega)), *])
  (b:=()) (a:=h) ⟨Z,P⟩
 have r:jj W9 152 1 [.n a.l,o,.p d.x 0,.n 0] h=jj W9 152 1 [.n a.l,o,.p d.x 0,.n a.l] U:=r;have xg:=CA a.l;rw[Gz]at J;refine⟨U,AZ B B ?_,J,xc⟩;rw[US.1];simp only[↓Q,↓H (Cp X)];rw[r,US.2.1];simp only[↓Q,↓QT,AdM,xg]
