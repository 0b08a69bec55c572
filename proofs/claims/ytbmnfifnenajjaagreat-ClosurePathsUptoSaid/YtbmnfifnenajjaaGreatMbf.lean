/- Part of the proof. -/
import Derived.Test.YtbmnfifnenajjaaGreatMbe
set_option linter.all false
noncomputable section
open Option renaming some->A,none->O,bind->Option.b
open _root_ renaming rfl->B,List->C,Nat->D,Int->K,if_neg->Ad,if_pos->Af,Option->Ae,Bool->Ah,cond->Aj,decide_eq_true->A0,decide_eq_false->A2,absurd->BF
open Bool renaming true->L,false->Aa
open Decidable renaming decide->Ao
open Nat renaming beq->AW,ble->BX,le_refl->CK
open List renaming replicate->BG,length->List.l,map->List.m,take->List.t,drop->List.d,toArray->List.a,flatMap->List.f
open Go.IntKind renaming i64->Go.IntKind.n
open Array renaming toList->Array.l
open Eq renaming trans->Eq.t,symm->Eq.s
open Or renaming inl->Or.i,inr->Or.j
open Int renaming toNat->Int.n
namespace Go.Proofs.YtbmnfifnenajjaaGreat
open Go.Fg
def NM(a:K):N:=if a=6 then AO else D4
def HD.refl(c:F)(a:G):HD c a a:=λd b _=>⟨B,b⟩
variable{k:F}{r:G}
def p9{b:C AE}(ym:EW b)(y6:BH b<=6000){xf:C Bz}(zE:xf.l<=4000){m:T}{v:F}{p l:D->F}(xg:Ff b xf m k v p l r)(u t e:N)(y7:Kd b u):∃yF xB yb yG xn,W9 (pos 228) [.p m 0,.S (N.c u),.S (N.c t),.S (N.c e)] r=A (.AB [.S (N.c (NM (C9 b u t e).2.2)),.n (C9 b u t e).2.2],xn)/\Ff (C9 b u t e).1 (xf++(C9 b u t e).2.1) m yF xB yb yG xn/\IU r m k v p l b.l xn yF xB yb yG (C9 b u t e).1.l:=by
 let⟨xr,Y,y2,yW,yH,yP,yr,zm⟩:=box r (.I 2 (N.c u))
 let⟨xa,xy,y3,yX,xE,yQ,ys,zK⟩:=box Y (.I 2 (N.c t))
 let⟨xb,yi,y4,yY,xk,yR,yt,zL⟩:=box xy (.I 2 (N.c e))
 let⟨z,yj,y5,yZ,xc,xK,xT,zM⟩:=box yi (.I 2 [.i .u8 0,.n 0])
 have x2:=Ko r u y2 yW
 have x3:=Ko Y t y3 yX
 have x4:=Ko xy e y4 yY
 have x5:=Jp yi y5 yZ
 have xD:=yH.AI (xE.AI (xk.AI xc))
 have yx:¬Lv r xa:=by grind
 have yy:¬Lv r xb:=by grind
 have yz:¬Lv r z:=by grind
 have x8:=xg.ext xD
 have yd:=((xE.AI (xk.AI xc)).M yr).t yP
 have ye:=((xk.AI xc).M ys).t yQ
 have yS:=(xc.M yt).t yR
 have zh:=(xE.AI (xk.AI xc)).lv yr
 have zi:=(xk.AI xc).lv ys
 have zj:=xc.lv yt
 have xY:yj.AL xr 0 2=A (N.c u):=BB yd
 have xZ:yj.AL xa 0 2=A (N.c t):=BB ye
 let⟨zd,zf⟩:=f6 ym x8 u t y7
 cases xv:G0 b u t with
 |false=>
  let⟨xo,xw,J⟩:=zd xv
  have V:C9 b u t e=(b,[],0):=by unfold C9;rw[xv,Af B]
  let⟨q,x0,xX,xH⟩:=Gy ((J.M xT).t xK) D4
  have xl:AH r q:=by rw[xH];exact(xD.AI J).Gw yz _
  have xL:=aa;rw[V,Ad5];refine⟨k,v,p,l,q,AZ B B ?_,xg.ext xl,IU.ext xl⟩;show _=A (F.AB [.S (N.c D4),.n 0],q);rw[LJ.1];simp only[↓x2,↓x3,↓x4,↓x5,↓Q,↓QT,AdM,↓H xY,↓H xZ,↓H xw,↓H nP,QB,↓xL.H B,↓H x0,↓H xX]
 |true=>
  let⟨i,g,c,xC,yM,xo,xp,xi,xR,W,xO,yn,zb,xw,J⟩:=zf xv
  have yl:i<b.l:=by grind
  have y9:=ym.at xi;have S:=x8.ext J;have x6:=xD.AI J;have V:C9 b u t e=if xC.Ak≠0 then(b,[],(6:K))else(Ke b u.n (λc=>⟨c.I.set t.n.n e,Gg t.n c.AV⟩),(match Iq b u.n with|some c=>G4 t.n e c.AV|none=>[]),(0:K)):=by unfold C9;rw[xv,Ad (by grind),xO];rfl
  let⟨xF,x9⟩:=CD (f:=N.c) (w:=2) (λ_=>B) (S.M.c i c xi) W
  have:xF=yM:=by have:=x9.ia;rw[zb]at this;cases this;rfl
  subst this;have yD:xo.AL xF (g*2) 2=A (N.c xC):=x9.AL (f:=N.c) (λ_=>B) W;have xx:=UB xC;by_cases xG:xC.Ak=0
  .rw[A0 xG]at xx;rw[Ad Om,yn]at V;have y8:(Ke b u.n λc=>⟨c.I.set t.n.n e,Gg t.n c.AV⟩)=b.set i ⟨c.I.set g e,Gg g c.AV⟩:=by unfold Ke;rw[yn];simp only[];rw[xp,xR];rfl
   rw[y8,xR]at V;have V:C9 b u t e=(b.set i ⟨c.I.set g e,Gg g c.AV⟩,G4 g e c.AV,0):=V;rw[V];let⟨ya,q,zS,_,_,zy,xm,zQ,zJ,zo⟩:=S.M.Ep xi W e
   have:ya=xF:=by grind
   subst this;have zH:B8 k p l b.l ya:=.j ⟨i,yl,.i zo⟩;have zu:xo.AL xb 0 2=A (N.c e):=BB P;have xq:(b.set i ⟨c.I.set g e,c.AV⟩).l=b.l:=by grind
   have xP:(b.set i ⟨c.I.set g e,c.AV⟩)[i]? =A ⟨c.I.set g e,c.AV⟩:=by grind
   have xj:∀a,Lv xo a->¬B8 k p l b.l a->q.M a=xo.M a/\Lv q a:=P;have zp:∀a,¬Lv r a->¬B8 k p l b.l a:=λa o R=>o (xg.M.lv R);have yv:∀a,¬Lv r a->As v a:=λa o=>AdS λg=>o (xg.ot.Cz g);have xS:=xj m S.lx S.nx;have yg:=xS.1.t S.gx;have yo:=xj xa P P;have yp:=xj xb P P;have yq:=xj z P P;have zq:¬Lv r xr:=zm;have ze:=xj xr P (zp xr zq);have zz:q.Ap m 0=A k:=Ay yg 0;have yL:q.Ap xr 1=A (.n u.n):=Ay (ze.1.t ((J.M zh).t yd)) 1;obtain⟨U,zF,_,_,zv,_⟩:=xm.at (by rw[xq];exact yl);have zc:AR 2 [k,.n u.n]=A (.p U (i*2)):=by grind
   have yc:Bl 1 [.p U (i*2)]=A (.p U (i*2+1)):=B;have zk:AM q [.p U (i*2+1)]=A (l i):=zv;have zl:=Cp (xm.w i _ xP);have zC:BH (b.set i ⟨c.I.set g e,c.AV⟩)=BH b:=by have:=VF xi ⟨c.I.set g e,c.AV⟩;grind
   have za:c.AV.l<=BH b:=by have Y:=Ya xi;have xy:=b_ b (i+1);omega
   have zr:¬B8 k p l (b.set i ⟨c.I.set g e,c.AV⟩).l m:=by rw[xq];exact S.nx
   have x1:∀a,¬As v a->¬B8 k p l (b.set i ⟨c.I.set g e,c.AV⟩).l a:=λa o=>by rw[xq];exact S.tm a o
   have yJ:T0 (b.set i ⟨c.I.set g e,c.AV⟩) q m k v p l g e c.AV xf (BH b) 0 .sn v q:={
    M:=xm
    ok:=Aw.sn q
    ot:=by show Aw q v Bz.c 3 (xf++[]);rw[Ad5];exact S.ot.Ar P
    gx:=by rw[yg];show A (BV.I 3 [k,.n (BH b),v])=A (BV.I 3 [k,.n ((BH b)-(0:D)),v]);rw[show(BH b)-((0:D):K)=BH b by omega]
    lx:=xS.2
    d:=(Ku v).symm
    fk:=λa _ _=>Cg a
    tx:=S.tx
    BO:=λa E W xp=>⟨B,E,xp⟩}
   have yC:∀xW,¬Lv r xW->xW≠m:=λxW o j=>o (j▸xg.lx);have y0:t=⟨t.Ak,g⟩:=by rw[<-xR]
   have yf:=ye;rw[y0]at yf;let⟨⟨Z,xs⟩,xN,xI,x⟩:=Dh (h:=c.AV.l) (f:=λy xt r=>jj W9 228 2 [.n c.AV.l,l i,.p xa 0,.p xb 0,.p m 0,.n y,.p U (i*2),xt.1,.p z 0] r)
    (g:=λy xt r=>T0 (b.set i ⟨c.I.set g e,c.AV⟩) q m k v p l g e c.AV xf (BH b) y xt.1 xt.2 r)
    (λy xt r xh x=>by
     let⟨zg,xB,xn,j,yI⟩:=Aav (xL:=z) (xC:=.p U (i*2)) (n:=⟨c.I.set g e,c.AV⟩) xP y9.2 e (by omega) y6 za xm zr x1 xS.2 (yo.1.t ((J.M zi).t yf)) yo.2 (yC xa yx) (yv xa yx) (yp.1.t ((J.M zj).t yS)) yp.2 (yC xb yy) (yv xb yy) xh x
     exact⟨(zg,xB),xn,j,yI⟩)
    (b:=(.sn,v)) (a:=q) yJ
   have xI:jj W9 228 2 [.n c.AV.l,l i,.p xa 0,.p xb 0,.p m 0,.n 0,.p U (i*2),.sn,.p z 0] q=jj W9 228 2 [.n c.AV.l,l i,.p xa 0,.p xb 0,.p m 0,.n c.AV.l,.p U (i*2),Z,.p z 0] xN:=xI;have x:T0 (b.set i ⟨c.I.set g e,c.AV⟩) q m k v p l g e c.AV xf (BH b) c.AV.l Z xs xN:=x;have yA:=x.ok;have yB:=x.ot;have yh:=x.gx;rw[Gz]at yA yB yh;have xJ:∀a,B8 k p l b.l a->As Z a:=λa R=>by rw[<-xq]at R;exact x.fk a P (.j (AdS λo=>x1 a o R))
   let⟨xu,yk,zR,_,_,_,zw,x7,xV,yu,zn⟩:=x.M.cq (HD.refl _ xN) xP yA (Cn.of λa o=>xJ a (.i o)) (λy xh=>Cn.of λa o=>xJ a (.j ⟨y,by grind,.i o⟩)) (λy xh _=>Cn.of λa o=>xJ a (.j ⟨y,by grind,.j o⟩))
   have:xu=U:=by grind
   subst this;rw[Ae5]at x7;have zG:B8 k p l b.l xu:=.i zn;have zs:=x.BO z P P P;have yT:=(xV z (λj=>by grind)).t (zs.1.t (yq.1.t ((J.M xT).t xK)));let⟨xd,zx,zt,yO⟩:=Gy yT D4
   have xA:∀a,a≠z->xd.M a=yk.M a:=λa E=>by rw[yO,AN,Ad E]
   have xU:∀a,Lv xd a=Lv yk a:=by grind
   have xL:=aa;have yN:=CA c.AV.l;have yw:∀a,Lv q a->a=m\/As v a->¬B8 k p l b.l a->¬B8 k p (BW l i Z) b.l a:=λa E xO xe=>by
    have xM:=E_.1 xe;refine E_.2 ⟨P,λy xh=>⟨P,?_⟩⟩;by_cases j:y=i;.subst j;rw[Ec];exact x.fk a E xO
    .rw[CE j];grind
   have yK:∀a,Lv r a->a≠m->¬B8 k p l b.l a->As v a->xd.M a=r.M a/\Lv xd a/\As xs a/\¬B8 k p (BW l i Z) b.l a:=λa E W xe xp=>by have yV:=x6.lv E;have g:=xj a yV xe;have zP:=x.BO a g.2 W xp;refine⟨(xA a P).t P,by grind,P,P⟩
   have xz:(b.set i ⟨c.I.set g e,Gg g c.AV⟩).l=b.l:=by grind
   have zB:m≠z:=by grind
   have zA:m≠xu:=by grind
   have zO:=yw m P P P;have zI:=yq.2;have zN:=yw z Om P P;have yU:xd.M m=A (.I 3 [k,.n (BH (b.set i ⟨c.I.set g e,Gg g c.AV⟩)),xs]):=by rw[xA m zB,xV m zA,yh];have Y:=VF xi ⟨c.I.set g e,Gg g c.AV⟩;have xy:=ha g e c.AV;simp only at Y;rw[show(BH b)-(G4 g e c.AV).l=(BH (b.set i ⟨c.I.set g e,Gg g c.AV⟩):K) by omega]
   have yE:∀a,¬As xs a->a≠m/\a≠z/\¬B8 k p (BW l i Z) b.l a/\a≠xu:=λa o=>by
    have W:a≠m:=λj=>by subst j;exact o x.tx
    have zD:As Z a:=x.d.l o;have y1:¬B8 k p l b.l a:=λR=>by have xQ:=R;rw[<-xq]at xQ;have:=x.BO a (xm.lv xQ) W (AdS λo=>x1 a o xQ);grind
    refine⟨W,λj=>by subst j;grind,?_,λj=>by subst j;grind⟩;have xM:=E_.1 y1;refine E_.2 ⟨xM.1,λy xh=>⟨(xM.2 y xh).1,?_⟩⟩;by_cases j:y=i;.subst j;rw[Ec];grind
    .rw[CE j];grind
   refine⟨k,xs,p,BW l i Z,xd,AZ B B ?_,?_,⟨λa E xe=> ?_⟩⟩;.show _=A (F.AB [.S (N.c D4),.n 0],xd);rw[LJ.1];simp only[↓x2,↓x3,↓x4,↓x5,↓Q,↓QT,AdM,↓H xY,↓H xZ,↓H xw,↓H (eW _ _),QB,↓H yD,↓xx.H B,LJ.2.1,↓H zu,↓H zy,↓H zz,↓H yL,↓H zc,↓H yc,↓H zk,↓H zl];rw[xI,LJ.2.2.2.1];simp only[QY,yN,LJ.2.2.1,yc,zw,xL.H B,zx,zt]
   .exact{
    M:=x7.Ar λa E R=>by rw[xz]at R;exact⟨xA a (λj=>by subst j;grind),by rw[xU];grind⟩
    ot:=yB.Ar λa E o=>by have g:=yE a o;exact⟨(xA a g.2.1).t (xV a g.2.2.2),by rw[xU,yu];grind⟩
    gx:=yU
    lx:=by rw[xU,yu];exact x.lx
    nx:=by rw[xz];grind
    tx:=x.tx
    tm:=λa o=>by rw[xz];exact(yE a o).2.2.1}
   .have Y:a≠m:=λj=>xe (.i j);have:=yK a E Y (λj=>xe (.j (.i j)):¬B8 k p l b.l a) (AdS λj=>xe (.j (.j j)):As v a);refine⟨this.1,this.2.1,λR=> ?_⟩;rcases R with j|j|j;.exact Y j
    .rw[xz]at j;exact this.2.2.2 j
    .exact j this.2.2.1
  .rw[A2 xG]at xx;rw[Af xG]at V;rw[V,Ad5];let⟨q,x0,xX,xH⟩:=Gy ((J.M xT).t xK) AO
   have xl:AH r q:=by rw[xH];exact x6.Gw yz _
   refine⟨k,v,p,l,q,AZ B B ?_,xg.ext xl,IU.ext xl⟩;show _=A (F.AB [.S (N.c AO),.n 6],q);rw[LJ.1];simp only[↓x2,↓x3,↓x4,↓x5,↓Q,↓QT,AdM,↓H xY,↓H xZ,↓H xw,↓H (eW _ _),QB,↓H yD,↓xx.H B,↓QE,↓H x0,↓H xX]
def jg:∀c a:C _,BH (c++a)=BH c+BH a
 |[],a=>by show BH a=0+BH a;omega
 |d::b,a=>by show d.AV.l+BH (b++a)=d.AV.l+BH b+BH a;rw[jg b a];omega
theorem jB(a:T)(b:N):Dq 1 2 a [.S (N.c b)]=A (.I 2 ([b].f N.c),.Z a 0 1 2 2):=rfl
def u6(a:G)(b:N):Aw (a.V (.I 2 ([b].f N.c))) (.Z a.next 0 1 2 2) N.c 2 [b]:=.j ⟨a.next,2,B,P,P,P⟩
variable{g:T}
def p8{d:C AE}(yf:EW d){xy:C Bz}{p m:F}{q t:D->F}{k:G}(u:Ff d xy g p m q t k)(e:N):∃j V xc J,W9 (pos 227) [.p g 0,.S (N.c e)] k=A (.AB [.S (N.c (Er d e).2.1),.n (Er d e).2.2],J)/\Ff (Er d e).1 xy g j m V xc J/\IU k g p m q t d.l J j m V xc (Er d e).1.l:=by
 have yD:=yf.1;let⟨Z,xG,yg,yc,xZ,x9,xL,yG⟩:=box k (.I 2 (N.c e))
 let⟨y,h,yh,yd,xm,xE,xt,yH⟩:=box xG (.I 2 [.i .u8 0,.n 0])
 have xX:=Ko k e yg yc;have xY:=Jp xG yh yd;have xl:=xZ.AI xm;have xP:¬Lv k y:=by grind
 have z:=u.ext xl;have X:=(xm.M xL).t x9;have yk:=xm.lv xL;have xT:h.AL Z 0 2=A (N.c e):=BB X;have xA:h.Ap Z 0=A (.i .u8 e.Ak):=Ay X 0;have xB:h.Ap Z 1=A (.n e.n):=Ay X 1;have xW:h.Ap g 0=A p:=Ay z.gx 0;have xu:=Cp z.M.o;rw[Ad0]at xu;have xg:∀(R:N)(f:K),(∀i,AX 2 h [.p y 0,.S (N.c R)]=A (AC,i)->i.AL y 0 2=A (N.c R)->xx W9 227 [.p g 0,.S (N.c e)] k=A (.AB [.S (N.c R),.n f],i))->Er d e=(d,R,f)->∃j V xc J,W9 (pos 227) [.p g 0,.S (N.c e)] k=A (.AB [.S (N.c (Er d e).2.1),.n (Er d e).2.2],J)/\Ff (Er d e).1 xy g j m V xc J/\IU k g p m q t d.l J j m V xc (Er d e).1.l:=λR f x x6=>by
  let⟨i,xb,xa,W⟩:=Gy xE R
  have xz:AH k i:=by rw[W];exact xl.Gw xP _
  rw[x6];exact⟨p,q,t,i,AZ B B P,u.ext xz,IU.ext xz⟩
 have E:=Xd e;have Y:=N9 e.n 0 100;by_cases xe:e.Ak=5;.refine xg e 0 (λi xb xa=> ?_) (by unfold Er;grind);rw[A0 xe]at E;rw[S2.1];simp only[QY,E.H B,QB, *]
 rw[A2 xe]at E;by_cases xq:e.Ak=1
 .cases xf:BK e.n 0 100 with
  |false=>rw[xf]at Y;refine xg (Ed 4) 0 (λi xb xa=> ?_) (by unfold Er;grind);rw[S2.1];simp only[QY,E.H B,QB,Y.H B,(N_ 4).H B, *]
  |true=>
   rw[xf]at Y;have yB:0<=e.n/\e.n<=100:=by unfold BK at xf;grind
   have xh:=Ch .n d.l 400;by_cases x2:d.l=400;.rw[A0 (by omega)]at xh;refine xg AO 5 (λi xb xa=> ?_) (by unfold Er;grind);rw[S2.1];simp only[↓xX,↓xY,↓Q,↓QT,↓H xT,↓E.H B,QB,↓H xA,↓H xB,↓Y.H B,↓H xW,↓H xu,↓H xh,↓QE,↓H xb,↓H xa, *]
   .rw[A2 (by omega)]at xh;have xJ:Er d e=(d++[⟨BG e.n.n AO,[]⟩],JJ d.l,0):=by unfold Er;rw[Ad xe,Ad (λk=>k xq),xf,Ad (by grind),Ad x2]
    rw[xJ];have yl:Bv .Cq [.p g 0] h p=L:=Ij z.gx B;have yn:Bv .Cq [.p Z 1] h (.n e.n)=L:=Ij X B;have xo:AH h (h.V (.I 2 ([AO].f N.c))):=AH.V _ _;have xv:=u6 h AO;have xU:=jB h.next AO;generalize yi:F.Z h.next 0 1 2 2=R at xv xU;generalize ye:h.V (.I 2 ([AO].f N.c))=xH at xo xv;have x1:xH.Ap Z 1=A (.n e.n):=Ay ((xo.M yk).t X) 1;have w:e.n=e.n.n:=by omega
    generalize yC:e.n.n=x at w xJ;let⟨I,xI,xC,xR,x0,x7⟩:=qv (a:=x) (by omega) xv
    rw[<-w]at xC;have xn:=xo.AI x0;have S:=z.ext xn;have ym:Bv .Cq [.p g 0] xI p=L:=Ij S.gx B;have x4:Cb [.sn,.sn] [(0,1)] [I]=A (.S [I,.sn]):=by rcases xR with⟨rfl,_⟩|⟨_,_,rfl,_⟩<;>rfl
    have x8:∀c,Lv h c->As I c:=λc r=>x7 c P;have xr:∀{xV:F},(∀c,¬As xV c->B8 p q t d.l c)->Cn xV I:=λx=>Cn.of λc l=>x8 c (z.M.lv (x c l));let⟨j,i,yj,xd,W,yx⟩:=S.M.Es (m:=⟨BG x AO,[]⟩) xR (Aw.sn xI) (Ku _) (xr λc l=>.i l) (Ku _) (λxk xj=>⟨xr λc l=>.j ⟨xk,xj,.i l⟩,xr λc l=>.j ⟨xk,xj,.j l⟩,Ku _,Ku _⟩) (by omega)
    have yq:=E_.1 S.nx;have yb:=(W.M S.lx P).t S.gx;have yA:BH (d++[⟨BG x AO,[]⟩])=BH d:=by rw[jg];rfl
    have xw:=Gx (d:=0) (a:=j) yb (by omega) (by omega) (Cr xd.o).1 (Cr xd.o).2;rw[(Ta _ _ _ _).1]at xw;have xQ:∀c,c≠g->(i.set g (.I 3 [j,.n (BH d),m])).M c=i.M c:=λc r=>by rw[AN,Ad r]
    have xF:(i.set g (.I 3 [j,.n (BH d),m])).M g=A (.I 3 [j,.n (BH d),m]):=by rw[AN,Af B]
    have xN:∀c,Lv (i.set g (.I 3 [j,.n (BH d),m])) c=Lv i c:=by grind
    generalize i.set g (.I 3 [j,.n (BH d),m])=xs at xw xQ xF xN;have yv:xs.Ap g 0=A j:=Ay xF 0;have xM:=Cp xd.o;have xK:(d++[(⟨BG x AO,[]⟩:AE)]).l=d.l+1:=by simp
    rw[Ad0,xK]at xM;have xD:=FA (a:=(d.l+1:D)) (b:=1) (by omega) (by omega);rw[show(d.l+1:D)-1=(d.l:K) by omega]at xD;have x5:Cb [(.i .u8 0),(.n 0)] [(0,1),(1,1)] [.i .u8 4,.n d.l]=A (.S (N.c (JJ d.l))):=B;have xS:¬B8 p q t d.l y:=λxi=>xP (u.M.lv xi);have ys:As p y:=(E_.1 xS).1;have yw:g≠y:=by grind
    have ya:=(xQ y (λf=>yw f.s)).t ((W.M (xn.lv xt) ys).t ((xn.M xt).t xE));let⟨U,yu,yt,x3⟩:=Gy ya (JJ d.l)
    have yr:∀c,c≠y->U.M c=xs.M c:=λc r=>by rw[x3,AN,Ad r]
    have yo:∀c,Lv U c=Lv xs c:=by grind
    have xO:∀c,Lv h c->¬B8 p q t d.l c->¬B8 j (BW q d.l I) (BW t d.l .sn) (d++[(⟨BG x AO,[]⟩:AE)]).l c:=λc r w=>by
     have yy:=E_.1 w;refine E_.2 ⟨P,λxk xj=> ?_⟩;rw[xK]at xj;by_cases f:xk=d.l;.subst f;rw[Ec,Ec];exact⟨P,Cg c⟩
     .rw[CE f,CE f];grind
    have xp:∀c,Lv k c->c≠g->¬B8 p q t d.l c->U.M c=k.M c/\Lv U c/\¬B8 j (BW q d.l I) (BW t d.l .sn) (d++[(⟨BG x AO,[]⟩:AE)]).l c:=λc r yF w=>by have yz:=xl.lv r;have yE:=(E_.1 w).1;grind
    have yp:=xO g z.lx z.nx;have yI:=xO y xt xS;refine⟨j,BW q d.l I,BW t d.l .sn,U,AZ B B ?_,?_,⟨λc r w=> ?_⟩⟩;.show _=A (F.AB [.S (N.c (JJ d.l)),.n 0],U);rw[S2.1];simp only[↓xX,↓xY,↓Q,↓QT,AdM,↓H xT,↓E.H B,QB,↓H xA,xq,↓H xB,↓Y.H B,↓H xW,↓H xu,↓H xh,S2.2,↓Xa.H B,yl,↓Lq,↓H xU,yi,ye,↓H x1,yn,↓H xC,ym,↓H x4,↓yj,↓H xw,↓H yv,↓H xM,↓H xD,↓H x5,↓H yu,↓H yt]
    .exact{
     M:=xd.Ar λc r xi=>⟨(yr c P).t P,by grind⟩
     ot:=u.ot.Ar λc r l=>by have:=xp c r (λf=>l (f▸u.tx)) (u.tm c l);grind
     gx:=by grind
     lx:=by rw[yo,xN];exact W.lv S.lx yq.1
     nx:=yp
     tx:=u.tx
     tm:=λc l=>(xp c (u.ot.Cz l) (λf=>l (f▸u.tx)) (u.tm c l)).2.2}
    .have h:¬B8 p q t d.l c:=λf=>w (.j (.i f));have xH:As m c:=AdS λf=>w (.j (.j f));have:=xp c r (λf=>w (.i f)) h;refine⟨this.1,this.2.1,λxi=> ?_⟩;rcases xi with f|f|f<;>grind
 .refine xg (Ed 5) 0 (λi xb xa=> ?_) (by unfold Er;rw[Ad xe,Af xq]);rw[S2.1];simp only[QY,E.H B,QB,(N_ 5).H B, *]
structure ED where
 op:K
 a:N
 b:N
 c:N
 Ct:K
def ED.c8(d:ED):C F:=[.i .u8 d.op,.i .u8 d.a.Ak,.n d.a.n,.i .u8 d.b.Ak,.n d.b.n,.i .u8 d.c.Ak,.n d.c.n,.n d.Ct]
def ED.CQ(d:ED):C N:=if d.op=2 then[d.a,d.b,d.c]else if d.op=3 then[d.a,d.b]else[d.a]
structure kN where
 m:C AE
 v:N
 F1:C Bz
 e:K
def BE(b:C AE)(a:ED):kN:=
 if a.op=1 then⟨(Er b a.a).1,(Er b a.a).2.1,[],(Er b a.a).2.2⟩
 else if a.op=2 then⟨(C9 b a.a a.b a.c).1,NM (C9 b a.a a.b a.c).2.2,(C9 b a.a a.b a.c).2.1,(C9 b a.a a.b a.c).2.2⟩
 else if a.op=3 then⟨(Eb b a.a a.b a.Ct).1,(Eb b a.a a.b a.Ct).2.1,[],(Eb b a.a a.b a.Ct).2.2⟩
 else⟨b,L2 b a.a,[],0⟩
def iJ{r:Type}{d:r->C F}{b l:D}(E:∀k,(d k).l=b)(y:∀k,BU (d k)=L){c:G}{h f:F}{e a:C r}(w:Aw c h d b e)(q:Aw c f d b a)(z:(e.l+a.l)*l<=GA):∃i g,DN b l c [h,f]=A (i,g)/\Aw g i d b (e++a)/\HD h c g/\(∀m,Lv c m->As h m->As i m):=by
 let⟨i,g,J,H⟩:=Vv E w z
 refine⟨i,g,?_,H⟩;have s:∀e:C _,BU (e.f d)=L:=λe=>by
  induction e with
  |nil=>rfl
  |cons k P n=>rw[DJ]at n⊢;rw[Aeh,AeG,n,<-DJ,y];rfl
 show(match Ii f with|some o=>(match F7 c b o f with|some p=>Aj (BU p) (Jo c b l h o p) O|none=>O)|none=>O)=_;have u:Ii f=A a.l:=by rcases q with⟨rfl,rfl⟩|⟨j,t,rfl,_⟩<;>rfl
 have v:F7 c b a.l f=A (a.f d):=by
  rcases q with⟨rfl,rfl⟩|⟨j,t,rfl,M,x,N⟩;.rfl
  .show Aj (AW b b&&BX a.l a.l) (Aj (AW a.l 0) (A []) (c.AL j 0 (a.l*b))) O=_;rw[Aee,AdX (CK _)];show Aj (AW a.l 0) (A []) (c.AL j 0 (a.l*b))=_;by_cases I:a.l=0
   .have:a=[]:=by grind
    subst this;rfl
   .rw[Gm I];show c.AL j 0 (a.l*b)=_;rw[D1 x,Af (by omega),Af B]
 rw[u];simp only[v];rw[s];grind
variable{b:G}{c:C AE}{e:T}{j:F}{n:D->F}
def lu{d:T}{z:C F}{y:D->F}(E:c.l<=400)(o:b.M e=A (.I 1 [.p d 0]))(v:Lv b e)(q:b.M d=A (.I 3 (j::z)))(w:Lv b d)(x:Aw b j (Hh n y) 2 (List.range c.l))(t:C _):M4 (AH b) (pos 225) [.p e 0] t (λd=>.S (N.c d)) (λa=> !Ie a c.l):=λa _ g k=>by
 have h:=p7 a c.l (by omega);let⟨I,i,s,r,l,p,H,_⟩:=box g (.I 2 (N.c a))
 have Q:=Ko g a s r;have f:=k.AI l;have M:=p;have J:=(f.M v).t o;have P:=(f.M w).t q;have u:=Cp x;rw[Ad0]at u;refine⟨i,AZ B B ?_,f⟩;show xx W9 225 [.S (N.c a),.p e 0] g=A (.b (!Ie a c.l),i);generalize Ie a c.l=m at h⊢;rw[sy];cases m<;>simp only[QY,h.H B,QB, *]
variable{d:G}
def WX{h g:G}{p j:C AE}{S w:C Bz}{c:T}{s q l:F}{t f m:D->F}{U:C F}(x:AH h g)(y:Ff p S e s q n t h)(u:IU g e s q n t p.l d l k f m j.l)(z:Ff j w e l k f m d)(E:g.M c=A (.I 2 U))(I:Lv g c)(M:¬Lv h c)(r:N):∃b,AX 2 d [.p c 0,.S (N.c r)]=A (AC,b)/\b.AL c 0 2=A (N.c r)/\Ff j w e l k f m b/\IU h e s q n t p.l b l k f m j.l:=by
 have J:=λo=>M (y.t0 o);have o:=u.fr c I J;let⟨b,R,Q,v⟩:=Gy (o.1.t E) r
 have P:∀a,a≠c->b.M a=d.M a:=λa i=>by rw[v,AN,Ad i]
 have X:∀a,Lv b a=Lv d a:=by grind
 refine⟨b,R,Q,z.Ar λa i V=>⟨P a (λv=>by grind),by grind⟩,⟨λa i H=> ?_⟩⟩;have W:=u.fr a (x.lv i) H;grind
def rP{c:C _}{a:N}(b:Ie a c.l=L):Kd c a:=by unfold Ie at b;rw[AdO]at b;exact Xp (by rw[Ph a (by omega)];grind)
variable{a:G}{y:F}
def m2{d:C _}(p:EW d){x:C Bz}{l i j:T}{v:F}{z:D->F}(g:Ff d x l y v n z a)(o:a.M e=A (.I 1 [.p l 0]))(t:Lv a e){c:C _}(u:Aw a k N.c 2 c)(E:c.l<1000)(r:∀h∈c,Ie h d.l=L):∃b,jj W9 195 3 [k,.p e 0,.p i 0,.p j 0] a=jj W9 195 2 [.p e 0,.p i 0,.p j 0] b/\AH a b:=by
 let⟨b,s,m⟩:=M7 Uk SJ (IX.Cs (c:=N.c) (a:=2) (λ_=>B) u) (lu p.1 o t g.gx g.lx g.M.o c) (by omega) a (λH q=>⟨B,q⟩)
 rw[P_ (λh=>Ie h d.l),Aei.2 r]at s;refine⟨b,?_,m⟩;rw[Nm.2.1];simp only[QY,QB, *]
def X8{b:T}{c:ED}(d:a.M b=A (.I 8 c.c8)):a.Ap b 0=A (.i .u8 c.op)/\a.AL b 1 2=A (N.c c.a)/\a.AL b 3 2=A (N.c c.b)/\a.AL b 5 2=A (N.c c.c)/\a.Ap b 7=A (.n c.Ct):=by refine⟨Ay d 0,?_,?_,?_,Ay d 7⟩<;>(rw[D1 d,Af (by grind),Ad (by grind)];rfl)
def nm{b:C AE}(s:EW b)(U:BH b<=6000){x:T}{P p:F}{S Q:D->F}(n:Ff b [] x P p S Q r){V W v:T}{k:G}(l:AH r k)(a:ED)(xd:k.M V=A (.I 1 [.p x 0]))(Y:k.M W=A (.I 8 a.c8)){xc:C F}(q:k.M v=A (.I 2 xc))(t:Lv k v)(u:¬Lv r v)(Z:a.op=1\/a.op=2\/a.op=3\/a.op=4)(xa:∀xb∈a.CQ,Ie xb b.l=L):∃d w c e H,jj W9 195 2 [.p V 0,.p W 0,.p v 0] k=A (.AB [.S (N.c (BE b a).v),.n (BE b a).e],H)/\Ff (BE b a).m (BE b a).F1 x d w c e H/\IU r x P p S Q b.l H d w c e (BE b a).m.l:=by
 have o:=n.ext l;let⟨xe,xg,xh,xi,xf⟩:=X8 Y
 have X:a.a∈a.CQ:=by unfold ED.CQ;split;simp;split<;>simp
 have J:=rP (xa a.a X);rcases Z with y|y|y|y
 .have i:BE b a=⟨(Er b a.a).1,(Er b a.a).2.1,[],(Er b a.a).2.2⟩:=by unfold BE;grind
  rw[i];let⟨d,c,e,E,z,j,m⟩:=p8 s o a.a
  let⟨h,M,I,g,f⟩:=WX l n m j q t u (Er b a.a).2.1
  refine⟨d,p,c,e,h,?_,g,f⟩;rw[Nm.2.2.2.1];simp only[QY,Int.reduceEq, *]
 .have i:BE b a=⟨(C9 b a.a a.b a.c).1,NM (C9 b a.a a.b a.c).2.2,(C9 b a.a a.b a.c).2.1,(C9 b a.a a.b a.c).2.2⟩:=by unfold BE;grind
  rw[i];let⟨d,w,c,e,E,z,j,m⟩:=p9 s U (xf:=[]) (by grind) o a.a a.b a.c J
  rw[Af2]at j;let⟨h,M,I,g,f⟩:=WX l n m j q t u (NM (C9 b a.a a.b a.c).2.2)
  refine⟨d,w,c,e,h,?_,g,f⟩;rw[Nm.2.2.2.1];simp only[QY,Int.reduceEq, *]
 .have i:BE b a=⟨(Eb b a.a a.b a.Ct).1,(Eb b a.a a.b a.Ct).2.1,[],(Eb b a.a a.b a.Ct).2.2⟩:=by unfold BE;grind
  rw[i];let⟨d,c,e,E,z,j,m⟩:=p_ s U o a.a a.b a.Ct J
  let⟨h,M,I,g,f⟩:=WX l n m j q t u (Eb b a.a a.b a.Ct).2.1
  refine⟨d,p,c,e,h,?_,g,f⟩;rw[Nm.2.2.2.1];simp only[QY,Int.reduceEq, *]
 .have i:BE b a=⟨b,L2 b a.a,[],0⟩:=by unfold BE;grind
  rw[i];let⟨E,z,R⟩:=qa s o a.a J
  let⟨h,M,I,g,f⟩:=WX l n (IU.ext R) (o.ext R) q t u (L2 b a.a)
  refine⟨P,p,_,Q,h,?_,g,f⟩;rw[Nm.2.2.2.1];simp only[QY,Int.reduceEq,Nm.2.2.2.2, *]
theorem wF(c:T)(a b:N):Dq 2 2 c [.S (N.c a),.S (N.c b)]=A (.I 4 ([a,b].f N.c),.Z c 0 2 3 2):=rfl
def pP{b:C AE}(xB:EW b)(xX:BH b<=6000){d:T}{xb xa:F}{M xc:D->F}{k:G}(xr:Ff b [] d xb xa M xc k)(a:ED)(xS:a.op=1\/a.op=2\/a.op=3\/a.op=4)(xD:∀x3∈a.CQ,Ie x3 b.l=L):∃h g e i c,W9 (pos 195) [.p d 0,.S a.c8] k=A (.AB [.S (N.c (BE b a).v),.n (BE b a).e],c)/\Ff (BE b a).m (BE b a).F1 d h g e i c/\IU k d xb xa M xc b.l c h g e i (BE b a).m.l:=by
 let⟨z,u,xU,xO,xG,xw,X,yh⟩:=box k (.I 1 [.p d 0])
 let⟨q,xf,xV,xP,r,xe,v,yi⟩:=box u (.I 8 a.c8)
 let⟨E,U,xW,xQ,j,xz,Y,yj⟩:=box xf (.I 2 [.i .u8 0,.n 0])
 let⟨l,p,xC,xA,m,xM,xZ,yk⟩:=box U (.I 2 ([a.a].f N.c))
 have xo:∀(t:F->G->R),bl (.p k.next 0) (k.V (.I (Bq (F.I (.p d 0))) (F.I (.p d 0)))) t=t (.p z 0) u:=Dy k (.I 1 [.p d 0]) xU xO;have xp:∀(t:F->G->R),bl (.p u.next 0) (u.V (.I (Bq (F.I (.S a.c8))) (F.I (.S a.c8)))) t=t (.p q 0) xf:=Dy u (.I 8 a.c8) xV xP;have xq:=Jp xf xW xQ;have xd:=xG.AI (r.AI j);have x4:=xd.AI m;have x9:=((r.AI (j.AI m)).M X).t xw;have ye:=(r.AI (j.AI m)).lv X;have xy:=((j.AI m).M v).t xe;have yf:=(j.AI m).lv v;have ya:=(m.M Y).t xz;have yg:=m.lv Y;have xx:=((r.AI j).M X).t xw;have xh:=(r.AI j).lv X;let⟨xj,yp,_,_,_⟩:=X8 xy
 let⟨yo,xk,_,_,_⟩:=X8 ((j.M v).t xe)
 let⟨_,_,yq,yr,_⟩:=X8 xy
 have xF:Aw p (.Z l 0 1 2 2) N.c 2 [a.a]:=.j ⟨l,2,B,.j B,xM,xZ⟩;have xl:Dq 1 2 l [.S (N.c a.a)]=A (.I 2 ([a.a].f N.c),.Z l 0 1 2 2):=jB l a.a;have S:∀(xm:F)(W:G),Aw W xm N.c 2 a.CQ->AH U W->jj W9 195 4 [.b (Ao (a.op=1\/a.op=4)),.i .u8 a.op,.Z l 0 1 2 2,.p z 0,.p q 0,.p E 0] p=jj W9 195 3 [xm,.p z 0,.p q 0,.p E 0] W->∃h g e i c,jj W9 195 4 [.b (Ao (a.op=1\/a.op=4)),.i .u8 a.op,.Z l 0 1 2 2,.p z 0,.p q 0,.p E 0] p=A (.AB [.S (N.c (BE b a).v),.n (BE b a).e],c)/\Ff (BE b a).m (BE b a).F1 d h g e i c/\IU k d xb xa M xc b.l c h g e i (BE b a).m.l:=λxm W x2 n o=>by
  have xR:a.CQ.l<1000:=by
   have:a.CQ.l<=3:=by unfold ED.CQ;split;simp;split<;>simp
   omega
  let⟨xg,xv,xH⟩:=m2 (i:=q) (j:=E) xB (xr.ext (xd.AI n)) ((n.M xh).t xx) (n.lv xh) x2 xR xD
  have s:=n.AI xH;let⟨h,g,e,i,yb,x8,x6,x5⟩:=nm xB xX xr (xd.AI s) a ((s.M xh).t xx) ((s.M (j.lv v)).t ((j.M v).t xe)) ((s.M Y).t xz) (s.lv Y) P xS xD
  grind
 have x1:∃h g e i c,jj W9 195 4 [.b (Ao (a.op=1\/a.op=4)),.i .u8 a.op,.Z l 0 1 2 2,.p z 0,.p q 0,.p E 0] p=A (.AB [.S (N.c (BE b a).v),.n (BE b a).e],c)/\Ff (BE b a).m (BE b a).F1 d h g e i c/\IU k d xb xa M xc b.l c h g e i (BE b a).m.l:=by
  by_cases xt:a.op=1\/a.op=4
  .have xE:a.CQ=[a.a]:=by unfold ED.CQ;grind
   refine S (.Z l 0 1 2 2) p (by grind) m ?_;rw[A0 xt,Nm.2.2.1];simp only[↓Q]
  .rw[A2 xt]at S⊢;by_cases xK:a.op=3
   .have xE:a.CQ=[a.a,a.b]:=by unfold ED.CQ;rw[Ad (by omega),Af xK]
    let⟨xn,V,xY,ym,xL,_⟩:=FJ (f:=N.c) (w:=2) (b:=a.b) (o:=.S (N.c a.b)) (h:=16) (λ_=>B) B B xF (DG (by grind))
    refine S xn V (by grind) (λxi xT=>by have:=xL xi P (EN P);grind:AH U V) ?_
    rw[Nm.2.2.1];simp only[QY, *]
   .have x7:a.op=2:=by omega
    have xE:a.CQ=[a.a,a.b,a.c]:=by unfold ED.CQ;grind
    let⟨I,V,yd,yc,n,xN,x0,yl⟩:=box p (.I 4 ([a.b,a.c].f N.c))
    have ys:Dq 2 2 I [.S (N.c a.b),.S (N.c a.c)]=A (.I 4 ([a.b,a.c].f N.c),.Z I 0 2 3 2):=wF I a.b a.c;let⟨xn,xg,xY,yn,xv,_⟩:=iJ (d:=N.c) (b:=2) (l:=16) (λ_=>B) (λ_=>B) (xF.ext n) (.j ⟨I,3,B,.j B,xN,x0⟩:Aw V (.Z I 0 2 3 2) N.c 2 [a.b,a.c]) (DG (by grind))
    refine S xn xg (by grind) (λxi xT=>by have:=xv xi P (EN P);grind:AH U xg) ?_
    rw[Nm.2.2.1];simp only[QY,Int.reduceEq, *]
 let⟨h,g,e,i,c,o,xJ,xI⟩:=x1
 refine⟨h,g,e,i,c,AZ B B ?_,xJ,xI⟩;have J:=Ch .u8 a.op 1;have Z:=Ch .u8 a.op 4;rw[Nm.1];by_cases xs:a.op=1;.rw[A0 xs]at J;rw[A0 Om]at o;simp only[↓xo,↓xp,↓xq,↓Q,↓H xk,xC,↓H xl,xA,↓H xj,↓H J,o]
 .rw[A2 xs]at J;by_cases xu:a.op=4;.rw[A0 xu]at Z;rw[A0 Om]at o;simp only[↓xo,↓xp,↓xq,↓Q,↓H xk,xC,↓H xl,xA,↓H xj,↓H J,↓H Z,o]
  .rw[A2 xu]at Z;rw[A2 Om]at o;simp only[↓xo,↓xp,↓xq,↓Q,↓H xk,↓H xl,↓H xj,↓H J,↓H Z, *]
def PR{c:G}{a:T}{g:C F}(e:c.M a=A (.I 1 g)){b:F}(f:Fl b=L):∃d,AX 1 c [.p a 0,.S [b]]=A (AC,d)/\d.AL a 0 1=A [b]/\d=c.set a (.I 1 [b]):=
 ⟨_,Gb e B (by rw[DJ];simp[f]),BB (by rw[AN,Af B]),B⟩
def pQ{o:C AE}{t:C Bz}{f:T}{b s:F}{h u:D->F}(c:Ff o t f b s h u a):∃e,W9 (pos 196) [.p f 0] a=A (.S [b],e)/\AH a e:=by
 let⟨z,x,n,m,d,k,y,p⟩:=box a (.I 1 [.sn])
 have w:=Dy a (.I 1 [.sn]) n m;have g:=c.ext d;have v:=Ay g.gx 0;have j:Cb [.sn] [(0,1)] [b]=A (.S [b]):=by rcases c.M.o with⟨rfl,_⟩|⟨_,_,rfl,_⟩<;>rfl
 let⟨l,r,q,i⟩:=PR k (Cr c.M.o).2
 refine⟨l,AZ B B ?_,by rw[i];exact d.Gw p _⟩;rw[so];simp only[↓w,↓Q,↓H v,↓H j,↓H r,↓H q]
structure Ft(a:C AE):Prop where
 ok:EW a
 Sc:I1 a=0
def Ft.jf{b:C _}(c:Ft b):BH b<=6000:=by
 have a:=c.Sc;unfold I1 at a;split at a;.grind
 .grind
def pv(xa:Ft c){l:F}{xW yF:D->F}(xU:CY d l xW yF c)(b:ED)(yh:b.op=1\/b.op=2\/b.op=3\/b.op=4)(ym:∀yE∈b.CQ,Ie yE c.l=L):((BE c b).e≠0->∃m,W9 (pos 151) [.S [l],.S b.c8] d=A (.AB [.S [.sn],.S (N.c AO),.sn,.n (BE c b).e],m)/\AH d m)/\
  ((BE c b).e=0->∃I xg P Y m,W9 (pos 151) [.S [l],.S b.c8] d=A (.AB [.S [I],.S (N.c (BE c b).v),xg,.n 0],m)/\AH d m/\CY m I P Y (BE c b).m/\Aw m xg Bz.c 3 (BE c b).F1/\
   (∀a,Lv d a->¬B8 I P Y (BE c b).m.l a/\As xg a)/\(∀a,¬As xg a->¬B8 I P Y (BE c b).m.l a)):=by
 let⟨xG,T,yi,yc,xR,xZ,yn,yP⟩:=box d (.I 1 [l])
 let⟨xH,V,yj,yd,xp,x1,xA,yQ⟩:=box T (.I 8 b.c8)
 let⟨i,W,yk,ye,Z,x3,xB,yR⟩:=box V (.I 1 [.sn])
 let⟨x,r,yl,yf,t,x6,xe,yS⟩:=box W (.I 2 [.i .u8 0,.n 0])
 have xN:∀(j:F->G->R),bl (.p d.next 0) (d.V (.I (Bq (F.I (.S [l]))) (F.I (.S [l])))) j=j (.p xG 0) T:=Dy d (.I 1 [l]) yi yc
 have xO:∀(j:F->G->R),bl (.p T.next 0) (T.V (.I (Bq (F.I (.S b.c8))) (F.I (.S b.c8)))) j=j (.p xH 0) V:=Dy T (.I 8 b.c8) yj yd
 have xP:∀(j:F->G->R),bl (.p V.next 0) (V.V (.I 1 [.sn])) j=j (.p i 0) W:=Dy V (.I 1 [.sn]) yk ye
 have xQ:=Jp W yl yf
 have xh:=xR.AI (xp.AI (Z.AI t))
 have xD:¬Lv d i:=by grind
 have xE:¬Lv d x:=by grind
 have x0:=((xp.AI (Z.AI t)).M yn).t xZ
 have x2:=((Z.AI t).M xA).t x1
 have yo:=(Z.AI t).lv xA
 have x4:=(t.M xB).t x3
 have xd:=t.lv xB
 have xf:i≠x:=by grind
 have xK:r.AL xG 0 1=A [l]:=BB x0
 let⟨f,I,P,Y,ya,xv,xV,xq,xY⟩:=fG xa.ok xa.Sc (xU.ext xh)
 have xI:ya.AL xH 0 8=A b.c8:=BB ((xq.M yo).t x2)
 let⟨xo,E,xu,xM,w,xk,xi,xT⟩:=pP xa.ok xa.jf xV b yh ym
 have yw:∀a,Lv r a->¬NP f I .sn P Y c.l a:=λa e xc=>by
  have:=xY a e;rcases xc with s|s|s;.grind
  .grind
  .exact s (Cg a)
 have n:∀a,Lv r a->w.M a=r.M a/\Lv w a/\¬NP f xo E xu xM (BE c b).m.l a:=λa e=>by have:=xT.fr a (xq.lv e) (yw a e);grind
 have xS:AH r w:=λa e=>⟨(n a e).1,(n a e).2.1⟩
 let⟨y,yL,xm,xl,xr,x9,yN,yv⟩:=box w (.I 2 [.i .u8 0,.n 0])
 have yV:=Jp w xm xl
 have yJ:=xi.ext xr
 let⟨X,xL,yT,xw⟩:=Gy x9 (BE c b).v
 have xs:AH w X:=by rw[xw];exact xr.Gw yv _
 have xj:=xi.ext xs
 have xy:X.M y=A (.I 2 (N.c (BE c b).v)):=by rw[xw,AN,Af B]
 have yp:Lv X y:=by grind
 have J:=xS.AI xs
 have xt:=xh.AI J
 have xx:=(J.M xd).t x4
 have x7:=(J.M xe).t x6
 constructor
 .intro yg;have xX:Cb [.sn] [] []=A (.S [.sn]):=B;let⟨k,yC,yU,S⟩:=PR xx (b:=.sn) B
  let⟨p,xn,xJ,g⟩:=Gy (b:=k) (a:=x) (f:=[.i .u8 0,.n 0]) (by rw[S,AN,Ad xf.symm];grind) AO
  have yy:p.AL i 0 1=A [.sn]:=BB (by rw[g,AN,Ad xf,S,AN,Af B]);refine⟨p,AZ B B ?_,?_⟩;.rw[UR.1];simp only[↓xN,↓xO,↓xP,↓xQ,↓Q,↓QT,AdM,↓H xK,↓H xv,Int.reduceEq,UR.2.1,↓H xI,↓H xk];rw[xm,xl];simp only[QY,xL,yg,xX,QE,yC,xn,yy,xJ]
  .rw[g,S];exact((xt.Gw xD _).Gw xE _)
 .intro yb;let⟨k,S,M⟩:=pQ xj
  have u:=xj.ext M;have x8:=(M.M yp).t xy;have yM:Lv k i:=by grind
  have yA:k.AL y 0 2=A (N.c (BE c b).v):=BB x8;have yq:Bv (.ld 2) [.p y 0] X (.S (N.c (BE c b).v))=L:=Mo xy;have yI:k.Ap f 2=A E:=Ay u.gx 2;have ys:Bv .Cq [.p f 2] X E=L:=Ij xj.gx B;have x5:=(M.M (J.lv xd)).t xx;have yK:=(M.M (J.lv xe)).t x7;let⟨p,xn,xJ,g⟩:=PR x5 (Cr u.M.o).2
  have yG:f≠i:=by grind
  have yH:f≠x:=by grind
  have yx:y≠i:=by grind
  have xz:p.M f=k.M f:=by rw[g,AN,Ad yG]
  have yt:Bv .Cq [.p f 2] p E=L:=Ij (xz.t u.gx) B;have yr:Bv (.ld 2) [.p y 0] p (.S (N.c (BE c b).v))=L:=Mo (by rw[g,AN,Ad yx];grind);let⟨U,yB,yD,xb⟩:=Gy (b:=p) (a:=x) (f:=[.i .u8 0,.n 0]) (by rw[g,AN,Ad xf.symm];grind) (BE c b).v
  have yu:Bv .Cq [.p f 2] U E=L:=Ij (by rw[xb,AN,Ad yH];exact xz.t u.gx) B;have yz:U.AL i 0 1=A [xo]:=BB (by rw[xb,AN,Ad xf,g,AN,Af B]);have xF:∀a,a≠i->a≠x->U.M a=k.M a:=λa W r=>by rw[xb,AN,Ad r,g,AN,Ad W]
  have yO:∀a,Lv U a=Lv k a:=by grind
  refine⟨xo,E,xu,xM,U,AZ B B ?_,?_,?_,?_,?_,?_⟩;.rw[yb]at xk;rw[UR.1];simp only[↓xN,↓xO,↓xP,↓xQ,↓Q,↓QT,AdM,↓H xK,↓H xv,Int.reduceEq,UR.2.1,↓H xI,↓H xk];rw[xm,xl];simp only[↓Q,↓QT,AdM,↓H xL,UR.2.2,↓H S,↓H yA,yq,↓Lq,↓H yI,ys,↓H xn,yt,yr,↓H yB,yu,↓H yz,↓H yD];rfl
  .rw[xb,g];exact(((xt.AI M).Gw xD _).Gw xE _)
  .exact u.M.Ar λa e xc=>⟨xF a (λo=>by subst o;exact(n _ xd).2.2 (.j (.i xc))) (λo=>by subst o;exact(n _ xe).2.2 (.j (.i xc))),by grind⟩
  .exact u.ot.Ar λa e xC=>⟨xF a (λo=>by subst o;exact(n _ xd).2.2 (.j (.j xC))) (λo=>by subst o;exact(n _ xe).2.2 (.j (.j xC))),by grind⟩
  .intro a e;have:=(n a (xh.lv e)).2.2;exact⟨λs=>this (.j (.i s)),AdS λs=>this (.j (.j s))⟩
  .exact xi.tm
def Ee:D->C K->C Bx
 |_,[]=>[]
 |a,c::b=>⟨.n c,.n (a:K),a⟩::Ee (a+1) b
def eM(c:K):∀(b:C K)(a:D),Ee a (b++[c])=Ee a b++[⟨.n c,.n ((a+b.l:D):K),a+b.l⟩]
 |[],a=>rfl
 |d::b,a=>by show _::Ee (a+1) (b++[c])=_::(Ee (a+1) b++_);rw[eM c b (a+1),Aec,show a+1+b.l=a+(b.l+1) by omega]
def nL(a b:K):Jr Aa [0] (.n a) (.n b)=A (a==b):=by rw[<-Kz];show JO (A (Ju a b)) (A L)=_;cases Ju a b<;>rfl
def ZU(a:K):∀(b:C K)(c d:D),(b.idxOf a=b.l->Gs Aa [0] (.n a) (Ee c b) d=A O)/\(b.idxOf a<b.l->∃f:Bx,Gs Aa [0] (.n a) (Ee c b) d=A (A (d+b.idxOf a,f))/\f.Eo=.n ((c+b.idxOf a:D):K))
 |[],c,d=>⟨λ_=>rfl,λg=>by cases g⟩
 |e::b,c,d=>by
  have i:=ZU a b (c+1) (d+1);have o:Gs Aa [0] (.n a) (Ee c (e::b)) d=Aj (a==e) (A (A (d,(⟨.n e,.n (c:K),c⟩:Bx)))) (Gs Aa [0] (.n a) (Ee (c+1) b) (d+1)):=by show@Option.casesOn Ah (λ_=>Ae (Ae (D×Bx))) (Jr Aa [0] (.n a) (.n e)) O (λj=>Aj j (A (A (d,(⟨.n e,.n (c:K),c⟩:Bx)))) (Gs Aa [0] (.n a) (Ee (c+1) b) (d+1)))=_;rw[nL]
  rw[o,List.idxOf_cons,Aec];by_cases h:e=a;.subst h;rw[Afq];exact⟨λg=>(by simp at g),λ_=>⟨_,B,B⟩⟩
  .have k:(a==e)=Aa:=by simpa usingλf=>h f.s
   have l:(e==a)=Aa:=by simpa using h
   rw[k,l];simp only[cond_false];refine⟨λg=>i.1 (by omega),λg=> ?_⟩;obtain⟨f,m,n⟩:=i.2 (by omega);exact⟨f,by rw[m,show d+1+b.idxOf a=d+(b.idxOf a+1) by omega],by rw[n,show c+1+b.idxOf a=c+(b.idxOf a+1) by omega]⟩
def tv{b:C K}{h:D}(m:d.M e=A (.Bn (Ee 0 b) h))(c:K):EP Aa [0] (.n 0) L d [.m e,.n c]=A (if b.idxOf c=b.l then .AB [.n 0,.b Aa]else .AB [.n ((b.idxOf c:D):K),.b L]):=by
 have g:=ZU c b 0 0;have n:O_ d (.m e)=A (Ee 0 b):=by show(match HQ (d.M e)with|some (k,_)=>A k|none=>O)=_;rw[m];rfl
 have o:Lw Aa [0] (.n c) (Ee 0 b)=Gs Aa [0] (.n c) (Ee 0 b) 0:=B;unfold EP;simp only[n,o];by_cases f:b.idxOf c=b.l;.rw[g.1 f,Af f];rfl
 .obtain⟨p,i,j⟩:=g.2 (by have:=List.idxOf_le_length (l:=b) (a:=c);omega);rw[i,Ad f];simp only[j,Ad2];rfl
def uj{a:C K}{c:D}(g:d.M e=A (.Bn (Ee 0 a) c)){b:K}(h:a.idxOf b=a.l):G9 Aa [0] (.n 0) d [.m e,.n b]=A (.AB [.n 0,.n (c:K)],d.set e (.Bn (Ee 0 a++[⟨.n b,.n 0,c⟩]) (c+1))):=by have f:=(ZU b a 0 0).1 h;have i:Lw Aa [0] (.n b) (Ee 0 a)=Gs Aa [0] (.n b) (Ee 0 a) 0:=B;unfold G9;simp only[g,ba,i,f];rfl
def dT(d e:F):∀(b:C K)(a c:D),O5 (a+b.l) (Ee a b++[⟨d,e,a+b.l⟩]) c=A (c+b.l)
 |[],a,c=>by show Aj (AW (a+0) (a+0)) (A c) O=_;rw[Aee];rfl
 |f::b,a,c=>by show Aj (AW a (a+(f::b).l)) (A c) (O5 (a+(f::b).l) (Ee (a+1) b++[⟨d,e,a+(f::b).l⟩]) (c+1))=_;rw[Gm (by rw[Aec];omega),Aec,show a+(b.l+1)=a+1+b.l by omega];show O5 (a+1+b.l) (Ee (a+1) b++[⟨d,e,a+1+b.l⟩]) (c+1)=_;rw[dT d e b (a+1) (c+1),show c+1+b.l=c+(b.l+1) by omega]
def h_(c:Bx->Bx)(b:Bx):∀a:C Bx,Nr c (a++[b]) a.l=a++[c b]
 |[]=>rfl
 |d::a=>by show d::Nr c (a++[b]) a.l=_;rw[h_ c b a];rfl
def eL:∀(a:C K)(b:D),(Ee b a).l=a.l
 |[],_=>rfl
 |c::a,b=>by show(Ee (b+1) a).l+1=_;rw[eL a];rfl
def nQ{c:T}{a:C K}{d:K}(i:b.M c=A (.Bn (Ee 0 a++[⟨.n d,.n 0,a.l⟩]) (a.l+1))):Hn b [.m c,.n (a.l:K),.n (a.l:K)]=A (AC,b.set c (.Bn (Ee 0 (a++[d])) (a++[d]).l)):=by have f:=dT (.n d) (.n 0) a 0 0;rw[Ad2]at f;have g:=h_ (VM (.n (a.l:K))) ⟨.n d,.n 0,a.l⟩ (Ee 0 a);rw[eL]at g;show(match Ox (b.M c)with|some (e,h)=>(match O5 a.l e 0 with|some j=>A (AC,b.set c (.Bn (Nr (VM (.n (a.l:K))) e j) h))|none=>O)|none=>O)=_;rw[i];simp only[ba,f,Ad2,g];rw[eM,AdY,AeE,Ad2];rfl
structure RY(i:C N)(j:C K)(k:G)(g e:T)(l:F)(h:D)(f c:F)(b:G):Prop where
 oc:Aw b f N.c 2 (Cf (i.t h) j).1
 oo:Aw b c Be 1 (Cf (i.t h) j).2
 gq:b.M g=A (.I 2 [.m e,c])
 gr:b.M e=A (.Bn (Ee 0 (Cf (i.t h) j).2) (Cf (i.t h) j).2.l)
 lq:Lv b g
 lr:Lv b e
 aq:As c g
 ar:As c e
 cq:As f g
 cr:As f e
 d:Cn f c
 BO:∀a,Lv k a->a≠g->a≠e->As l a->b.M a=k.M a/\Lv b a/\As c a/\As f a
def l3(a:G)(d:N):∃c b,a.next=c/\a.V (.I 2 [.i .u8 0,.n 0])=(a.V (.I 2 [.i .u8 0,.n 0]))/\AX 2 (a.V (.I 2 [.i .u8 0,.n 0])) [.p a.next 0,.S (N.c d)]=A (AC,b)/\AH a b/\b.M c=A (.I 2 (N.c d))/\Lv b c/\¬Lv a c:=
 ⟨_,_,B,B,ET B B,AH.V _ _,P,P,EX _⟩
def cF{e:C _}{u:C K}{q:G}{c:T}{J:F}{h:D}(xi:e.l<=800000)(xh:h<e.l){v:T}{o:N}{p:C N}{n:C K}(xg:p.l=h)(xa:(Cf (e.t (h+1)) u).1=p++[o])(R:(Cf (e.t (h+1)) u).2=n)(U:Aw b j N.c 2 p)(V:Aw b k Be 1 n)(S:b.M c=A (.I 2 [.m g,k]))(xc:b.M g=A (.Bn (Ee 0 n) n.l))(t:Lv b c)(I:Lv b g)(M:As k c)(Q:As k g)(r:As j c)(z:As j g)(X:Cn j k)(xb:b.M v=A (.I 2 (N.c o)))(xm:∀a,Lv q a->a≠c->a≠g->As J a->b.M a=q.M a/\Lv b a/\As k a/\As j a):∃l E,jj W9 180 4 [j,.p v 0,.n h,.n e.l,Z N.c e,.p c 0] b=jj W9 180 2 [.n e.l,Z N.c e,.p c 0,.n (h+1:D),l] E/\RY e u q c g J (h+1) l k E:=by
 let⟨l,s,xk,xl,Y,W⟩:=FJ (f:=N.c) (w:=2) (b:=o) (o:=.S (N.c o)) (h:=16) (λ_=>B) B B U (DG (by omega))
 have m:∀a,Lv b a->As j a->s.M a=b.M a/\Lv s a/\As l a:=by grind
 refine⟨l,s,?_,?_⟩;.rw[LG.2.2.2.2.2.1];simp only[QY,LG.2.2.2.2.1,H (Bh (a:=h) (by omega)), *]
 .exact{
  oc:=by grind
  oo:=by rw[R];exact V.Ar P
  gq:=(m c t r).1.t S
  gr:=by grind
  lq:=(m c t r).2.1
  lr:=(m g I z).2.1
  aq:=M
  ar:=Q
  cq:=(m c t r).2.2
  cr:=(m g I z).2.2
  d:=(Cn.of P).symm
  BO:=λa xj xd xe xf=>by grind}
def Aas{j:C N}{m:C K}{M:G}{k:T}{Y:F}(xS:k≠g)(yr:m.l+j.l<=800000){l:D}{c:N}(xm:j[l]? =A c){xr X:F}{xv:G}(e:RY j m M k g Y l xr X xv):∃E p xO,jj W9 180 2 [.n j.l,Z N.c j,.p k 0,.n l,xr] xv=jj W9 180 2 [.n j.l,Z N.c j,.p k 0,.n (l+1:D),E] xO/\RY j m M k g Y (l+1) E p xO:=by
 have xl:l<j.l:=by grind
 have xs:=Cm xl;have S:=cg c (j.t l) m;rw[FL xm]at S;have xR:=cf (j.t l) m;have xQ:=TF (j.t l) m;rw[Aef]at xR xQ;have xX:=e.oc;have xB:=e.oo;have xM:=e.gr;have u:(Cf (j.t (l+1)) m).1=(Cf (j.t l) m).1++[(Hx c (Cf (j.t l) m).2).1]:=by grind
 have I:(Cf (j.t (l+1)) m).2=(Hx c (Cf (j.t l) m).2).2:=by grind
 generalize(Cf (j.t l) m).1=x4 at xX u xQ;generalize(Cf (j.t l) m).2=d at xB xM u I xR;let⟨h,n,xw,_,xH,z,xd,yg,xU⟩:=l3 xv c
 have xf:=(z.M e.lq).t e.gq;have xk:=(z.M e.lr).t xM;have xi:=z.lv e.lq;have xj:=z.lv e.lr;have xn:=xX.ext z;have xo:=xB.ext z;have xE:n.Ap h 0=A (.i .u8 c.Ak):=Ay xd 0;have x0:n.Ap h 1=A (.n c.n):=Ay xd 1;have x1:n.Ap k 0=A (.m g):=Ay xf 0;have xZ:k≠h:=by grind
 have xD:g≠h:=by grind
 have xY:∀a,Lv M a->a≠k->a≠g->As Y a->n.M a=M.M a/\Lv n a/\As X a/\As xr a/\a≠h:=λa i xb t xc=>by have:=e.BO a i xb t xc;exact⟨(z.M this.2.1).t this.1,z.lv this.2.1,this.2.2.1,this.2.2.2,λS=>xU (S▸this.2.1)⟩
 by_cases xg:c.Ak=4
 .have xy:Hx c d=(⟨c.Ak,(d.idxOf c.n)⟩,if d.idxOf c.n=d.l then d++[c.n]else d):=Af xg;rw[xy]at u I;have xh:=tv xk c.n;by_cases xt:d.idxOf c.n=d.l
  .rw[Af xt]at xh;have I:(Cf (j.t (l+1)) m).2=d++[c.n]:=by grind
   have u:(Cf (j.t (l+1)) m).1=x4++[⟨c.Ak,d.l⟩]:=by grind
   let⟨p,q,yf,xC,R,t⟩:=FJ (f:=Be) (w:=1) (b:=c.n) (o:=.n c.n) (h:=8) (λ_=>B) B B xo (DG (by omega))
   have xL:=(R.M xi e.aq).t xf;have xe:=(R.M yg P).t xd;have yh:Bv .Cq [.p h 1] q (.n c.n)=L:=Ij xe B;have yi:Bv .Cq [.p k 0] q (.m g)=L:=Ij xL B;have xT:=uj ((R.M xj e.ar).t xk) xt;have xN:(q.set g (.Bn (Ee 0 d++[⟨.n c.n,.n 0,d.l⟩]) (d.l+1))).M g=A (.Bn (Ee 0 d++[⟨.n c.n,.n 0,d.l⟩]) (d.l+1)):=by rw[AN,Af B]
   have xz:∀a,a≠g->(q.set g (.Bn (Ee 0 d++[⟨.n c.n,.n 0,d.l⟩]) (d.l+1))).M a=q.M a:=λa i=>by rw[AN,Ad i]
   have yj:∀a,Lv (q.set g (.Bn (Ee 0 d++[⟨.n c.n,.n 0,d.l⟩]) (d.l+1))) a=Lv q a:=by grind
   generalize q.set g (.Bn (Ee 0 d++[⟨.n c.n,.n 0,d.l⟩]) (d.l+1))=r at xT xN xz yj;have xJ:=nQ xN;have yc:(r.set g (.Bn (Ee 0 (d++[c.n])) (d++[c.n]).l)).M g=A (.Bn (Ee 0 (d++[c.n])) (d++[c.n]).l):=by rw[AN,Af B]
   have xA:∀a,a≠g->(r.set g (.Bn (Ee 0 (d++[c.n])) (d++[c.n]).l)).M a=r.M a:=λa i=>by rw[AN,Ad i]
   have yk:∀a,Lv (r.set g (.Bn (Ee 0 (d++[c.n])) (d++[c.n]).l)) a=Lv r a:=by grind
   generalize r.set g (.Bn (Ee 0 (d++[c.n])) (d++[c.n]).l)=U at xJ yc xA yk;have ya:=(xA k xS).t ((xz k xS).t xL);have xI:=Gx (d:=1) (a:=p) ya (by omega) (by omega) (Cr xC).1 (Cr xC).2;have ye:Dg 1 [p] [.m g,X]=[.m g,p]:=B;rw[ye]at xI;have yb:(U.set k (.I 2 [.m g,p])).M k=A (.I 2 [.m g,p]):=by rw[AN,Af B]
   have xW:∀a,a≠k->(U.set k (.I 2 [.m g,p])).M a=U.M a:=λa i=>by rw[AN,Ad i]
   have yl:∀a,Lv (U.set k (.I 2 [.m g,p])) a=Lv U a:=by grind
   generalize U.set k (.I 2 [.m g,p])=V at xI yb xW yl;have x9:=(xW h xZ.symm).t ((xA h xD.symm).t ((xz h xD.symm).t xe));have xG:=Gx (d:=1) (a:=.n d.l) x9 (by omega) (by omega) B B;have xx:Dg 1 [.n d.l] (N.c c)=N.c ⟨c.Ak,d.l⟩:=B;rw[xx]at xG;have xK:(V.set h (.I 2 (N.c ⟨c.Ak,d.l⟩))).M h=A (.I 2 (N.c ⟨c.Ak,d.l⟩)):=by rw[AN,Af B]
   have yn:∀a,a≠h->(V.set h (.I 2 (N.c ⟨c.Ak,d.l⟩))).M a=V.M a:=λa i=>by rw[AN,Ad i]
   have ym:∀a,Lv (V.set h (.I 2 (N.c ⟨c.Ak,d.l⟩))) a=Lv V a:=by grind
   generalize V.set h (.I 2 (N.c ⟨c.Ak,d.l⟩))=xP at xG xK yn ym;have xq:∀a,Lv xP a=Lv q a:=by grind
   have x6:∀a,a≠k->a≠g->a≠h->xP.M a=q.M a:=by grind
   have x7:=t k xi e.aq;have x8:=t g xj e.ar;have yo:As p h:=by grind
   have xV:∀{x2:F}{a:T}{x3:T},As x2 x3->¬As x2 a->a≠x3:=by grind
   let⟨E,yd,yp,x5⟩:=cF (q:=M) (J:=Y) (v:=h) (by omega) xl (by omega) u I
    (xn.Ar λa i s=>⟨(x6 a (xV e.cq s) (xV e.cr s) P).t (R.M i (e.d.r s)),by rw[xq];exact R.lv i (e.d.r s)⟩)
    (xC.Ar P)
    P P (by rw[xq];exact R.lv xi e.aq) (by rw[xq];exact R.lv xj e.ar) x7 x8 e.cq e.cr (Cn.of λa s=>t a (xn.Cz s) (e.d.r s)) xK P
   refine⟨E,p,yd,?_,x5⟩;rw[LG.2.2.1];simp only[↓Q,↓QD,↓QV,↓QT,xs,LG.2.2.2.1,↓H (HZ xm),↓H xH,xw,↓H xE,xg,↓H x1,↓H x0,↓H xh,QB,↓H (Ay xf 1:n.Ap k 1=A X),↓H (Cp xo),↓yf,yh,yi,↓Lq,↓H xT,↓H xJ,↓H xI,LG.2.2.2.2.2.2,↓H xG];grind
  .rw[Ad xt]at xh;have I:(Cf (j.t (l+1)) m).2=d:=by grind
   generalize yq:d.idxOf c.n=J at u xh;have xF:=Gx (d:=1) (a:=.n J) xd (by omega) (by omega) B B;have xx:Dg 1 [.n J] (N.c c)=N.c ⟨c.Ak,J⟩:=B;rw[xx]at xF;have xa:∀a,a≠h->(n.set h (.I 2 (N.c ⟨c.Ak,J⟩))).M a=n.M a:=λa i=>by rw[AN,Ad i]
   have xe:(n.set h (.I 2 (N.c ⟨c.Ak,J⟩))).M h=A (.I 2 (N.c ⟨c.Ak,J⟩)):=by rw[AN,Af B]
   have W:∀a,Lv (n.set h (.I 2 (N.c ⟨c.Ak,J⟩))) a=Lv n a:=by grind
   generalize n.set h (.I 2 (N.c ⟨c.Ak,J⟩))=q at xF xa xe W;let⟨E,r,xu,xp⟩:=cF (q:=M) (J:=Y) (v:=h) (by omega) xl (by omega) u I (xn.Ar λa i s=>⟨xa a (λS=>by grind),by rw[W];exact i⟩) (xo.Ar λa i s=>⟨xa a (λS=>by subst S;exact xU (xB.Cz s)),by rw[W];exact i⟩)
    ((xa k xZ).t xf) ((xa g xD).t xk) (by rw[W];exact xi) (by rw[W];exact xj) e.aq e.ar e.cq e.cr e.d xe (λa i xb t xc=>by have:=xY a i xb t xc;exact⟨(xa a this.2.2.2.2).t this.1,by rw[W];exact this.2.1,this.2.2.1,this.2.2.2.1⟩)
   refine⟨E,X,r,?_,xp⟩;rw[LG.2.2.1];simp only[↓Q,↓QD,↓QV,↓QT,xs,LG.2.2.2.1,↓H (HZ xm),↓H xH,xw,↓H xE,xg,↓H x1,↓H x0,↓H xh,QB,LG.2.2.2.2.2.2,↓H xF];exact xu
 .have xy:Hx c d=(c,d):=Ad xg;rw[xy]at u I;let⟨E,r,xu,xp⟩:=cF (q:=M) (J:=Y) (v:=h) (by omega) xl (by omega) u I xn xo xf xk xi xj e.aq e.ar e.cq e.cr e.d xd (λa i xb t xc=>by have:=xY a i xb t xc;exact⟨this.1,this.2.1,this.2.2.1,this.2.2.2.1⟩)
  refine⟨E,X,r,?_,xp⟩;rw[LG.2.2.1];simp only[↓Q,↓QD,↓QV,↓QT,AdM,xs,LG.2.2.2.1,↓H (HZ xm),↓H xH,xw,↓H xE,xg];exact xu
def fP(b:C N)(l:C K)(S:l.l+b.l<=800000){f:G}(V:e≠g)(H:f.M e=A (.I 2 [.m g,j]))(J:f.M g=A (.Bn (Ee 0 l) l.l))(X:Lv f e)(Y:Lv f g)(xa:Aw f j Be 1 l)(w:As j e)(x:As j g):
  ∃i k a,W9 (pos 180) [.p e 0,Z N.c b] f=A (i,a)/\Aw a i N.c 2 (Cf b l).1/\Aw a k Be 1 (Cf b l).2/\a.M e=A (.I 2 [.m g,k])/\a.M g=A (.Bn (Ee 0 (Cf b l).2) (Cf b l).2.l)/\Lv a e/\Lv a g/\As k e/\As k g/\As i e/\As i g/\Cn i k/\
   (∀h,Lv f h->h≠e->h≠g->As j h->a.M h=f.M h/\Lv a h/\As k h/\As i h):=by
 have v:RY b l f e g j 0 .sn j f:={oc:=Aw.sn f,oo:=xa,gq:=H,gr:=J,lq:=X,lr:=Y,aq:=w,ar:=x,cq:=Cg _,cr:=Cg _,d:=(Ku _).symm,BO:=λh U _ _ P=>⟨B,U,P,Cg h⟩}
 let⟨⟨i,k⟩,a,p,c⟩:=Dh (h:=b.l) (f:=λo m a=>jj W9 180 2 [.n b.l,Z N.c b,.p e 0,.n o,m.1] a) (g:=λo m a=>RY b l f e g j o m.1 m.2 a)
  (λo m a R c=>by
   let⟨xb,W⟩:=Bb R
   let⟨y,k,M,E,u⟩:=Aas V S W c
   exact⟨(y,k),M,E,u⟩) (b:=(.sn,j)) v
 have p:jj W9 180 2 [.n b.l,Z N.c b,.p e 0,.n 0,.sn] f=jj W9 180 2 [.n b.l,Z N.c b,.p e 0,.n b.l,i] a:=p
 have c:RY b _ f e g j _ i k a:=c
 have r:=c.oc
 have t:=c.oo
 have q:=c.gr
 rw[Gz]at r t q
 have z:=CA b.l
 refine⟨i,_,a,AZ B B ?_,r,t,c.gq,q,c.lq,c.lr,c.aq,c.ar,c.cq,c.cr,c.d,c.BO⟩
 rw[LG.1]
 simp only[↓Q]
 rw[p,LG.2.2.1]
 simp only[↓Q,↓QT,AdM,z,LG.2.1]
structure TZ(n:C N)(k:G)(e d j:T)(f:F)(m:D)(l:C (C N))(g:C K)(i:C F)(h c:F)(b:G):Prop where
 P:L8 n l j f h i b
 ac:l.l=m
 oo:Aw b c Be 1 g
 gq:b.M e=A (.I 2 [.m d,c])
 gr:b.M d=A (.Bn (Ee 0 g) g.l)
 lq:Lv b e
 lr:Lv b d
 oq:As c e
 bL:As c d
 L1:∀a,Lj j f h i a->a≠e/\a≠d/\As c a
 BO:∀a,Lv k a->a≠e->a≠d->b.M a=k.M a/\Lv b a/\¬Lj j f h i a/\As c a
def Aaq{d:C AE}(xr:EW d){xe:C N}{E:G}{l r m xd:T}(xs:l≠r){t:F}{e:D}{J:C (C N)}{k:C K}{u:C F}{xD:F}{p:G}(b:TZ xe E l r m t e J k u y xD p){g:K}{h:F}(xX:k.l<=400){j:K}(X:k[e]? =A j){s:AE}(xt:Iq d j=A s):∃xM z q U,jj W9 123 2 [.pi [Z AE.c d,.n g,h],.p l 0,.n e,.p m 0,.p xd 0] p=jj W9 123 2 [.pi [Z AE.c d,.n g,h],.p l 0,.n (e+1:D),.p m 0,.p xd 0] U/\TZ xe E l r m t (e+1) (J++[(Cf s.I k).1]) (Cf s.I k).2 xM z q U:=by
 let⟨xZ,xq,W⟩:=Mt xt
 have xp:e<k.l:=by grind
 have xY:=(xr.at W).1;have v:=b.P;let⟨Q,q,V,xv,xH,xI,xm,xn,xA,xB,xg,xh,xQ,xR,xV,xc⟩:=fP s.I k (by omega) xs b.gq b.gr b.lq b.lr b.oo b.oq b.bL
 have x:∀a,Lj m t y u a->V.M a=p.M a/\Lv V a/\As q a/\As Q a:=λa c=>xc a (v.lv c) (b.L1 a c).1 (b.L1 a c).2.1 (b.L1 a c).2.2;have I:=v.Ar λa c=>⟨(x a c).1,(x a c).2.1⟩;let⟨z,xW,xo,xw,xL,xf,n⟩:=I.add xH (λa c=>(x a c).2.2.2) (by have:=v.all.A7;have:=b.ac;omega)
 have S:=n l xA (λc=>(b.L1 l c).1 B);have R:=n r xB (λc=>(b.L1 r c).2.1 B);have xb:∀a,¬As q a->¬Lj m t y u a:=by grind
 refine⟨u++[Q],z,q,xo,?_,?_⟩
 .have xk:=Cm xp;have xy:=b.gq;have xz:=Cp b.oo;let⟨xj,M⟩:=CD (f:=Be) (w:=1) (λ_=>B) b.oo X
  have xK:AM p [.p xj (e*1)]=A (.n j):=by have:=M.Ap (f:=Be) (λ_=>B) X (b:=0) (by grind);exact this
  have xJ:=I.gx;have xu:AR 2 [Z AE.c d,.n j]=A (.pi (AE.c s)):=by rw[xq];exact M2 W
  have xC:Dr [.pi [Z AE.c d,.n g,h]]=A (.pi [Z AE.c d,.n g,h]):=B;have xl:Bl 0 [.pi [Z AE.c d,.n g,h]]=A (.pi [Z AE.c d,.n g,h]):=B;have xx:AM p [.pi [Z AE.c d,.n g,h]]=A (Z AE.c d):=B;rw[SQ.2.2.1];simp only[QY,xC,xl,xx,xy,xz,xk,SQ.2.2.2.1,H M.ia,xK,xu,xv,xJ,xw,xL,SQ.2.2.2.2,Bh (a:=e) (by omega)]
 .exact{
  P:=xf
  ac:=by rw[AdY,b.ac];rfl
  oo:=xI.Ar λa c j=>⟨(n a c (xb a j)).1,(n a c (xb a j)).2.1⟩
  gq:=S.1.t xm
  gr:=R.1.t xn
  lq:=S.2.1
  lr:=R.2.1
  oq:=xg
  bL:=xh
  L1:=λa c=>by grind
  BO:=λa c Y xa=>by
   let⟨x0,xE,xF,xG⟩:=b.BO a c Y xa
   let⟨xN,xi,xO,xP⟩:=xc a xE Y xa xG
   let⟨xS,xT,xU⟩:=n a xi xF
   grind}
def ty{d:C AE}(I:EW d)(xb:Vd d){v:C N}{n t w h:T}(xa:n≠t){x:K}(S:r.M h=A (.I 2 [.sn,.sn]))(xd:Lv r h)(xe:h≠n)(xf:h≠t):∀i a c b m f l g,d.l<a+i->OZ d b->TZ v r n t w k a c b m f l g->∃q o,jj W9 123 2 [.pi [Z AE.c d,.n x,y],.p n 0,.n a,.p w 0,.p h 0] g=A (q,o)/\Fz 4 o q (.S (Ci.c ⟨v,IA d i a c b⟩)):=by
 have R:∀a c b m f l g,¬a<b.l->TZ v r n t w k a c b m f l g->∃q o,jj W9 123 2 [.pi [Z AE.c d,.n x,y],.p n 0,.n a,.p w 0,.p h 0] g=A (q,o)/\Fz 4 o q (.S (Ci.c ⟨v,c⟩)):=by
  intro a c b m f l g xl e;let⟨Q,xr,xs,xj⟩:=e.BO h xd xe xf
  have xk:¬a<(b.l:K):=by omega
  have xp:=e.gq;have xq:=Cp e.oo;have xv:=e.P.gx;have P:BU [k,f]=L:=by rw[DJ];simp[(Cr e.P.ov).2,(Cr e.P.os).2]
  have xw:=Gb (Q.t S) B P;have xu:(g.set h (.I 2 [k,f])).AL h 0 2=A [k,f]:=BB (by rw[AN,Af B]);have M:=e.P.Ar (g:=g.set h (.I 2 [k,f])) λxt Y=>⟨by rw[AN,Ad (λH=>by grind)],by rw[K9];exact e.P.lv Y⟩;refine⟨.S [k,f],_,?_,M.fz⟩;rw[SQ.2.2.1];simp only[QY,SQ.2.1, *]
 intro i
 induction i with
 |zero=>intro a c b m f l g W p e;have:=p.le;exact R a c b m f l g (by omega) e
 |succ i xc=>
  intro a c b m f l g W p e
  have xn:=p.le
  have:=I.1
  cases s:b[a]?with
  |none=>
   have z:IA d (i+1) a c b=c:=by show(match b[a]?with|none=>c|some j=>_)=c;rw[s]
   rw[z];grind
  |some j=>
   let⟨u,E⟩:=p.2 j (AdU s)
   have V:I0 d j=u.I:=by unfold I0;rw[E]
   have z:IA d (i+1) a c b=IA d i (a+1) (c++[(Cf u.I b).1]) (Cf u.I b).2:=by show(match b[a]?with|none=>c|some j=>IA d i (a+1) (c++[(Cf (I0 d j) b).1]) (Cf (I0 d j) b).2)=_;rw[s];show IA d i (a+1) (c++[(Cf (I0 d j) b).1]) (Cf (I0 d j) b).2=_;rw[V]
   let⟨xi,xh,xg,U,H,J⟩:=Aaq (xd:=h) (g:=x) (h:=y) I xa e (by omega) s E
   rw[z,H];let⟨xo,xm,X⟩:=Mt E
   exact xc (a+1) _ _ xi xh xg U (by omega) (VI _ p (xb u (AdU X))) J
def pb(k:C AE)(x:EW k)(xj:Vd k)(o:K)(p:F)(i:C N)(h:∀xw∈i,Kd k xw)(xE:i.l<=700000):AY 123 [.pi [Z AE.c k,.n o,p],Z N.c i] (.S (Ci.c (GC k i))):=by
 generalize j:((G.Aq.V (.I 2 [.sn,.sn])).V (.Bn [] 0)).V (.I 2 [.m (.o .h),.sn])=f;have xc:f.M .h=A (.I 2 [.sn,.sn]):=by rw[<-j];rfl
 have xd:f.M (.o .h)=A (.Bn [] 0):=by rw[<-j];rfl
 have xe:f.M (.i .h)=A (.I 2 [.m (.o .h),.sn]):=by rw[<-j];rfl
 have xm:Lv f .h:=by rw[<-j];exact((E9 G.Aq _).V _).V _
 have xn:Lv f (.o .h):=by rw[<-j];exact(E9 (G.Aq.V _) _).V _
 have xo:Lv f (.i .h):=by rw[<-j];exact E9 _ _
 have xy:∀(g:F->G->R),bl (.p (G.Aq).next 0) ((G.Aq).V (.I 2 [.sn,.sn])) g=g (.p .h 0) (G.Aq.V (.I 2 [.sn,.sn])):=λ_=>B;have xA:∀(g:F->G->R),bl (.m (G.Aq.V (.I 2 [.sn,.sn])).next) ((G.Aq.V (.I 2 [.sn,.sn])).V (.Bn [] 0)) g=g (.m (.o .h)) ((G.Aq.V (.I 2 [.sn,.sn])).V (.Bn [] 0)):=λ_=>B;have xa:Cb [.mn,.sn] [(0,1)] [.m (.o .h)]=A (.S [.m (.o .h),.sn]):=B;have xz:∀(g:F->G->R),bl (.p ((G.Aq.V (.I 2 [.sn,.sn])).V (.Bn [] 0)).next 0) (((G.Aq.V (.I 2 [.sn,.sn])).V (.Bn [] 0)).V (.I (Bq (F.I (.S [.m (.o .h),.sn]))) (F.I (.S [.m (.o .h),.sn])))) g=g (.p (.i .h) 0) f:=λg=>by rw[<-j];rfl
 have y:(T.i .h)≠.o .h:=by grind
 let⟨b,Q,a,xl,m,xs,xf,xg,E,I,xt,xu,xB,xC,xD,xr⟩:=fP i [] (by grind) y xe xd xo xn (Aw.sn f) (Cg _) (Cg _)
 have e:AH a (a.V (.I 2 [b,.sn])):=AH.V _ _;have q:(a.V (.I 2 [b,.sn])).M a.next=A (.I 2 [b,.sn]):=by grind
 have s:Lv (a.V (.I 2 [b,.sn])) a.next:=by grind
 have X:BU [b,.sn]=L:=by rw[DJ];simp[(Cr m).2,show Fl .sn=L from B]
 have t:AX 2 (a.V (.I 2 [.sn,.sn])) [.p a.next 0,.S [b,.sn]]=A (AC,a.V (.I 2 [b,.sn])):=ET B X;have V:∀(z:F->G->R),bl (.p a.next 0) (a.V (.I 2 [.sn,.sn])) z=z (.p a.next 0) (a.V (.I 2 [.sn,.sn])):=λ_=>B;have M:¬Lv a a.next:=EX _;generalize xk:a.next=n at q s t V M;generalize a.V (.I 2 [b,.sn])=l at e q s t;have xx:∀c,Lj n b .sn [] c->c=n\/¬As b c:=λc h=>by
  rcases h with rfl|h|⟨xv,r,h⟩;.grind
  .exact BF (Cg c) h
  .grind
 have W:TZ (Cf i []).1 f (.i .h) (.o .h) n b 0 [] (Cf i []).2 [] .sn Q l:={
  P:={
   ov:=m.ext e,os:=Aw.sn l,all:=.nil,gx:=q,lx:=s
   IC:=λxv r=>by
    rcases r with rfl|r;.exact⟨AdS λJ=>M (m.Cz J),Ku _⟩
    .grind
   sx:=Cg _}
  ac:=B
  oo:=xs.ext e
  gq:=(e.M E).t xf
  gr:=(e.M I).t xg
  lq:=e.lv E
  lr:=e.lv I
  oq:=xt
  bL:=xu
  L1:=λc h=>by grind
  BO:=λc h xh xi=>by
   let⟨xp,S,xq,xG⟩:=xr c h xh xi (Cg c)
   refine⟨(e.M S).t xp,e.lv S,λw=> ?_,xq⟩;rcases xx c w with rfl|w;.grind
   .grind}
 let⟨U,v,u,xb⟩:=ty (x:=o) (y:=p) x xj y (h:=.h) xc xm (by grind) (by grind) 401 0 [] (Cf i []).2 [] .sn Q l (by have:=x.1;omega) (VI i ⟨Afp,λJ xF=>by grind⟩ h) W
 have u:jj W9 123 2 [.pi [Z AE.c k,.n o,p],.p (.i .h) 0,.n 0,.p n 0,.p .h 0] l=A (U,v):=u;refine Fz.Oc B B (f:=U) (d:=v) (c:=4) ?_ xb (by omega);have Y:Cb [.sn,.sn] [(0,1)] [b]=A (.S [b,.sn]):=by rcases m with⟨rfl,_⟩|⟨_,_,rfl,_⟩<;>rfl
 rw[SQ.1,xy,xA];simp only[↓H xa];rw[xz];simp only[↓H xl,↓H Y,xk,↓V,↓H t];grind
structure Iw(t:T->Prop)(b c:G):Prop where
 p:FC b c
 o:∀a,¬t a->c.M a=b.M a
 l:∀a,Lv c a=Lv b a
theorem Iw.refl(t:T->Prop)(a:G):Iw t a a:=⟨FC.refl a,P,P⟩
theorem Iw.AI{t:T->Prop}{d e f:G}(b:Iw t d e)(c:Iw t e f):Iw t d f:=⟨b.p.AI c.p,λa g=>(c.o a g).t (b.o a g),λa=>(c.l a).t (b.l a)⟩
theorem Iw.rc{t:T->Prop}{a:G}{b:T}{d:D}{c:C F}(f:t b)(e:DR (a.M b)=A (d,c)):Iw t a (a.set b (.rc d c)):=
 ⟨FC.rc e,λh g=>by rw[AN,Ad P],P⟩
def Fs(t:T->Prop)(e:D)(c:G)(g d:F):Prop:=∀f a,FC c a->∃b,Df (f+e) a g=A (d,b)/\Iw t a b
def BS(t:T->Prop)(e:D)(c:G)(g d:C F):Prop:=∀f a,FC c a->∃b,CT (Df (f+e)) a g=A (d,b)/\Iw t a b
section
variable{t:T->Prop}
theorem Fs.im{c:G}{a:F}(d:Im a=L):Fs t 1 c a a:=λe b _=>⟨b,UA e b d,Iw.refl t _⟩
theorem Fs.sn(a:G):Fs t 1 a .sn (.CV []):=λc b _=>⟨b,B,Iw.refl t _⟩
theorem Fs.up{a b:D}{c:G}{e d:F}(g:Fs t a c e d)(m:a<=b):Fs t b c e d:=λh f i=>by
 let⟨j,k,l⟩:=g (h+(b-a)) f i
 grind
theorem BS.nil(c:D)(a:G):BS t c a [] []:=λd b _=>⟨b,B,Iw.refl t _⟩
theorem BS.cons{b:D}{a:G}{h d:F}{i e:C F}(n:Fs t b a h d)(o:BS t b a i e):BS t b a (h::i) (d::e):=λf p g=>by
 let⟨q,k,c⟩:=n f _ g
 let⟨j,l,m⟩:=o f _ (g.AI c.p)
 exact⟨j,by rw[Qw,k,AdP,l];rfl,c.AI m⟩
theorem BS.Es{b:D}{a:G}{h c i d:C F}(o:BS t b a h c)(q:BS t b a i d):BS t b a (h++i) (c++d):=by
 intro e j f;let⟨k,m,g⟩:=o e j f
 let⟨l,n,p⟩:=q e k (f.AI g.p)
 refine⟨l,?_,g.AI p⟩;rw[Z5,m,AdP,n];rfl
theorem BS.Oh{c:G}:∀{a:C _},a.all Im=L->BS t 1 c a a
 |[],_=>BS.nil 1 c
 |d::a,b=>by rw[Aer,AdO]at b;exact BS.cons (Fs.im b.1) (BS.Oh b.2)
theorem BS.ZZ{h i:Type}{b:D}{a:G}{d:i->C F}{e:h->C F}{f:C h}{g:C i}(c:FN (λk l=>BS t b a (d k) (e l)) g f):BS t b a (g.f d) (f.f e):=by
 induction c with
 |nil=>exact BS.nil b a
 |cons c m j=>rw[Aeh,Aeh];exact BS.Es c j
theorem Fs.Z{h:D}{i:G}{d:T}{f a w c b:D}{u m e:C F}(H:t d)(z:DR (i.M d)=A (b,e))(E:f+a*c<=b)(I:(e.d f).t (a*c)=u)(y:BS t h i u m):Fs t (h+1) i (.Z d f a w c) (.CV (Iy c a m)):=by
 intro k g r;by_cases n:a=0;.subst n;exact⟨g,B,Iw.refl t _⟩
 have o:=r.1 d b e z;let⟨v,x,s⟩:=y k g r
 refine⟨v.set d (.rc b e),?_,s.AI (Iw.rc H (s.p.1 d b e o))⟩;show Aj (AW a 0) _ (match DR (g.M d)with|some (b,q)=>Aj (BX (f+a*c) b) (match CT (Df (k+h)) g ((q.d f).t (a*c))with|some (l,j)=>A (F.CV (Iy c a l),j.set d (.rc b q))|none=>O) O|none=>O)=_;rw[Gm n,o];show Aj (BX (f+a*c) b) (match CT (Df (k+h)) g ((e.d f).t (a*c))with|some (l,j)=>A (F.CV (Iy c a l),j.set d (.rc b e))|none=>O) O=_;rw[AdX E,I,x];rfl
theorem Fs.M0{q r:Type}{k:D}{e:G}{f:T}{j d:D}{b:C r}{m:C q}{g:r->C F}{h:q->C F}(v:t f)(x:∀a,(g a).l=d)(u:∀a,(h a).l=d)(s:DR (e.M f)=A (b.l*d,b.f g))(i:FN (λa y=>BS t k e (g a) (h y)) b m):Fs t (k+1) e (.Z f 0 b.l j d) (YtbmnfifnenajjaaGreat.Z h m):=by have l:=Fs.Z (w:=j) (f:=0) (c:=d) (a:=b.l) v s (by omega) (by rw[Ad7,Aeq (by rw[Mf x];grind)]) (BS.ZZ i);rw[i.A7,Un u]at l;rw[i.A7];exact l
theorem Fs.Cs{s:Type}{e:G}{f:F}{a:s->C _}{g:D}{b:C _}(i:∀k,¬As f k->t k)(j:∀c,(a c).l=g)(u:∀c,(a c).all Im=L)(n:Aw e f a g b):Fs t 2 e f (YtbmnfifnenajjaaGreat.Z a b):=by
 rcases n with⟨rfl,rfl⟩|⟨l,m,rfl,o,h,_⟩;.exact(Fs.sn e).up (by omega)
 .refine Fs.M0 (k:=1) (i l (λr=>r 0 b.l m g B)) j j (by rw[h];rfl) ?_
  clear h o i
  induction b with
  |nil=>exact .nil
  |cons c v q=>exact .cons (BS.Oh P) q
theorem Fs.Rt{m n:Type}{c:D}{a:G}{h:F}{d:n->C _}{e:m->C F}{b:D}{g:C n}{k:C m}(u:∀l,¬As h l->t l)(z:1<=c)(x:∀f,(d f).l=b)(v:∀i,(e i).l=b)(r:Aw a h d b g)(j:FN (λf i=>BS t c a (d f) (e i)) g k):Fs t (c+1) a h (YtbmnfifnenajjaaGreat.Z e k):=by
 rcases r with⟨rfl,w⟩|⟨o,q,rfl,_,s,_⟩;.have:=AeV.1 (by rw[<-j.A7,w];rfl);subst this;exact(Fs.sn a).up (by omega)
 .exact Fs.M0 (u o (λy=>y 0 g.l q b B)) x v (by rw[s];rfl) j
theorem Fs.S{a:D}{c:G}{b e:C F}(h:BS t a c b e):Fs t (a+1) c (.S b) (.S e):=λf d k=>by
 let⟨g,m,l⟩:=h f d k
 refine⟨g,?_,l⟩;show(match CT (Df (f+a)) d b with|some (j,i)=>A (F.S j,i)|none=>O)=_;grind
theorem Fs.p{e:D}{d:G}{a:T}{f b:D}{c h:C F}(s:t a)(q:DR (d.M a)=A (b,c))(n:BS t e d c h):Fs t (e+1) d (.p a f) (.pi (h.d f)):=λi g k=>by
 let⟨m,v,l⟩:=n i g k
 have r:=k.1 a b c q;refine⟨m.set a (.rc b c),?_,l.AI (Iw.rc s (l.p.1 a b c r))⟩;show(match DR _ with|some (b,j)=>(match CT (Df (i+e)) g j with|some (u,o)=>A (F.pi (u.d f),o.set a (.rc b j))|none=>O)|none=>O)=_;grind
theorem BS.FV{a:D}{b:G}{f e:C F}(h:BS t a b f e)(i:a<=40):∃c,Go.Fg.FV b f=A (e,c)/\Iw t b c:=by
 let⟨c,d,g⟩:=h (40-a) b (FC.refl _)
 rw[show 40-a+a=40 by omega]at d;exact⟨c,d,g⟩
theorem CY.fs{h:G}{r:F}{i l:D->F}{n:C AE}(p:CY h r i l n)(m:∀b,B8 r i l n.l b->t b):Fs t 3 h r (Z AE.c n):=by
 have H:∀(j:C AE)(d:D),(∀(a:D) e,j[a]? =A e->Aw h (i (d+a)) N.c 2 e.I/\Aw h (l (d+a)) BJ.c 2 e.AV/\(∀b,¬As (i (d+a)) b->t b)/\(∀b,¬As (l (d+a)) b->t b))->FN (λJ M=>BS t 2 h (Hh i l J) (AE.c M)) (List.range' d j.l) j:=by
  intro j
  induction j with
  |nil=>intro d _;exact .nil
  |cons e P E=>
   intro d s;rw[Aec,List.range'_succ];let⟨v,x,y,z⟩:=s 0 e B
   refine .cons (BS.cons (Fs.Cs (a:=N.c) (g:=2) y (λ_=>B) (λ_=>B) v) (BS.cons (Fs.Cs (a:=BJ.c) (g:=2) z (λ_=>B) (λ_=>B) x) (BS.nil _ _))) (E (d+1) λa I m=> ?_);have:=s (a+1) I (by grind);rwa[show d+(a+1)=d+1+a by omega]at this
 refine Fs.Rt (d:=Hh _ _) (e:=AE.c) (b:=2) (λb k=>m b (.i k)) (by omega) (λ_=>B) (λ_=>B) p.o ?_;rw[AfS];refine H n 0 λa e q=> ?_;rw[Ad2];have u:=(AdN.1 q).1;exact⟨p.c a e q,p.w a e q,λb k=>m b (.j ⟨a,u,.i k⟩),λb k=>m b (.j ⟨a,u,.j k⟩)⟩
theorem Ff.fs{g:G}{k i:F}{h l:D->F}{b:C _}{j:C Bz}{c:T}(d:Ff b j c k i h l g)(e:∀a,NP c k i h l b.l a->t a):Fs t 4 g (.p c 0) (.pi [Z AE.c b,.n (BH b),Z Bz.c j]):=
 Fs.p (f:=0) (h:=[Z _ b,.i _ _,Z _ _]) (e c (.i B)) (by rw[d.gx];rfl) (BS.cons (d.M.fs λa m=>e a (.j (.i m))) (BS.cons ((Fs.im B).up (by omega)) (BS.cons ((Fs.Cs (a:=Bz.c) (g:=3) (λa n=>e a (.j (.j n))) (λ_=>B) (λ_=>B) d.ot).up (by omega)) (BS.nil _ _))))
end
def ln{d:T}{z:C F}{y:D->F}(E:c.l<=400)(o:b.M e=A (.I 1 [.p d 0]))(v:Lv b e)(q:b.M d=A (.I 3 (j::z)))(w:Lv b d)(x:Aw b j (Hh n y) 2 (List.range c.l))(t:C _):M4 (AH b) (pos 121) [.p e 0] t (λd=>.S (N.c d)) (λa=> !Gt a c.l):=λa _ g k=>by
 have h:=W_ a c.l (by omega);let⟨I,i,s,r,l,p,H,_⟩:=box g (.I 2 (N.c a))
 have Q:=Ko g a s r;have f:=k.AI l;have M:=p;have J:=(f.M v).t o;have P:=(f.M w).t q;have u:=Cp x;rw[Ad0]at u;refine⟨i,AZ B B ?_,f⟩;show xx W9 121 [.S (N.c a),.p e 0] g=A (.b (!Gt a c.l),i);generalize Gt a c.l=m at h⊢;rw[rZ];cases m<;>simp only[QY,h.H B,QB, *]
def qR(n:Ft c){h:G}{m:F}{xi xL:D->F}(xe:CY h k xi xL c){d:C N}(xG:Aw h m N.c 2 d)(xQ:d.l<=100)(i:∀q∈d,Gt q c.l=L):∃M,W9 (pos 62) [.S [k],m] h=A (.AB [.S (Ci.c (GC c d)),.n 0],M)/\HD m h M:=by
 let⟨W,p,xw,xr,xb,xm,xB,xU⟩:=box h (.I 1 [k])
 let⟨g,l,xx,xs,I,xn,xC,xV⟩:=box p (.I 2 [.sn,.sn])
 have xM:∀(o:F->G->R),bl (.p h.next 0) (h.V (.I (Bq (F.I (.S [k]))) (F.I (.S [k])))) o=o (.p W 0) p:=Dy h (.I 1 [k]) xw xr
 have xN:∀(o:F->G->R),bl (.p p.next 0) (p.V (.I 2 [.sn,.sn])) o=o (.p g 0) l:=Dy p _ xx xs
 have z:=xb.AI I
 have xF:¬Lv h g:=by grind
 have xJ:l.AL W 0 1=A [k]:=BB ((I.M xB).t xm)
 let⟨e,Y,T,xa,b,xj,xf,J,xl⟩:=fG n.ok n.Sc (xe.ext z)
 have r:AH b (b.V (.I 1 [.p e 0])):=AH.V _ _
 have u:(b.V (.I 1 [.p e 0])).M b.next=A (.I 1 [.p e 0]):=by grind
 have y:Lv (b.V (.I 1 [.p e 0])) b.next:=by grind
 have xE:¬Lv b b.next:=EX _
 have X:AX 1 (b.V (.I 1 [.pn])) [.p b.next 0,.p e 0]=A (AC,b.V (.I 1 [.p e 0])):=by have xK:(b.V (.I 1 [.pn])).set b.next (.I 1 [.p e 0])=b.V (.I 1 [.p e 0]):=VN _ _ _;rw[TL (HM _ _) B B,xK]
 generalize xy:b.next=xI at u y xE X
 generalize b.V (.I 1 [.p e 0])=xq at r u y X
 have t:=xf.ext r
 have xd:=z.AI (J.AI r)
 have E:=xG.ext xd
 have xT:=Cp E
 have xO:¬(d.l:K)>100:=by omega
 let⟨v,xA,s⟩:=M7 Uk SJ (IX.Cs (c:=N.c) (a:=2) (λ_=>B) E) (ln n.ok.1 u y t.gx t.lx t.M.o d) (by omega) xq (λxX xv=>⟨B,xv⟩)
 rw[P_ (λq=>Gt q c.l),Aei.2 i]at xA
 have xg:=t.ext s
 have xH:=E.ext s
 have xZ:v.Ap xI 0=A (.p e 0):=Ay ((s.M y).t u) 0
 have xz:=ed n.Sc
 have xo:=pb c n.ok xz (BH c:K) (Z Bz.c []) d (λq xR=>Xp (by rw[Ph q (by omega)];grind)) (by omega)
 let⟨j,xk,V⟩:=BS.FV (t:=λa=>NP e Y .sn T xa c.l a\/¬As m a) (BS.cons (xg.fs λa i=>.i i) (BS.cons ((Fs.Cs (a:=N.c) (g:=2) (λa xD=>.j xD) (λ_=>B) (λ_=>B) xH).up (by omega)) (BS.nil 4 v))) (by omega)
 have xS:=xo v _ j xk
 have xW:∀a,Lv l a->¬NP e Y .sn T xa c.l a:=λa i xt=>by
  have:=xl a i;rcases xt with x|x|x;.grind
  .grind
  .exact x (Cg a)
 have xh:As m g:=by grind
 have xc:AH l v:=J.AI (r.AI s)
 have P:∀a,Lv l a->As m a->j.M a=l.M a/\Lv j a:=λa i U=>⟨(V.o a (λx=>by grind)).t (xc.M i),by rw[V.l];grind⟩
 have xp:=(P g xC xh).1.t xn
 have x0:AX 2 j [.p g 0,.S (Ci.c (GC c d))]=A (AC,j.set g (.I 2 (Ci.c (GC c d)))):=Gb xp B B
 have xY:(j.set g (.I 2 (Ci.c (GC c d)))).AL g 0 2=A (Ci.c (GC c d)):=BB (by rw[AN,Af B])
 refine⟨j.set g (.I 2 (Ci.c (GC c d))),AZ B B ?_,λa i U=> ?_⟩
 rotate_left
 .have:=P a (z.lv i) U;have xu:a≠g:=λxP=>xF (by grind);exact⟨by rw[AN,Ad xu];grind,by grind⟩
 .rw[aV.1];simp only[↓xM,↓xN,↓Q,↓QT,AdM,↓H xJ,↓H xj];rw[xy];simp only[QY,Int.reduceEq,QB,aV.2.2,aV.2.1, *]
