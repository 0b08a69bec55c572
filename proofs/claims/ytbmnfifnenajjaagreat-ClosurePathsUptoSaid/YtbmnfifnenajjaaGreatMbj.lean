/- Part of the proof. -/
import Derived.Sort.LotA
import Derived.Sort.LotB
import Derived.Sort.LotC
import Derived.Test.YtbmnfifnenajjaaGreatMbi
set_option linter.all false
noncomputable section
open Option renaming some->A,none->O,getD->Option.g,bind->Option.b
open _root_ renaming rfl->B,List->C,Nat->D,Int->K,if_neg->Ad,if_pos->Af,Option->Ae,Bool->Ah,cond->Aj,decide_eq_true->A0,decide_eq_false->A2,Array->Bg,absurd->BF
open Bool renaming true->L,false->Aa
open Decidable renaming decide->Ao
open Nat renaming beq->AW,le_refl->CK
open List renaming replicate->BG,length->List.l,map->List.m,take->List.t,flatMap->List.f
open Go.IntKind renaming i64->Go.IntKind.n
open Array renaming toList->Array.l,size->Array.z
open Eq renaming trans->Eq.t,symm->Eq.s
open Or renaming inl->Or.i,inr->Or.j
open Int renaming toNat->Int.n
namespace Go.Proofs.YtbmnfifnenajjaaGreat
open Go.Fg
def La(b:C Ab):D->C (BN×F)
 |0=>[]
 |a+1=>match b[a]?with
  |some c=>La b a++[(c.A8,.n (a:K))]
  |none=>La b a
def a_{e:C Ab}{f:BN}:∀{b:D},(∀(c:D) a,c<b->e[c]? =A a->a.A8≠f)->DV (La e b) f=O
 |0,_=>rfl
 |b+1,g=>by
  have h:=a_ (b:=b) λc a j d=>g c a (by omega) d;unfold La;split;.rename_i a d;rw[R5,h];grind
  .grind
def h0{g:C Ab}(c:BD g){a:D}{d:Ab}(f:g[a]? =A d):∀{b:D},a<b->DV (La g b) d.A8=A (.n a)
 |0,j=>by omega
 |b+1,j=>by
  unfold La;by_cases e:a=b
  .subst e;rw[f];simp only[];rw[R5,a_ λn h p l e=>by have k:=c.XL n h l;have o:=c.XL a d f;rw[e]at k;omega]
   grind
  .have m:=h0 c f (b:=b) (by omega);split;.rw[R5,m]
   .grind
def hZ{a:C _}(e:BD a){c:BN}{b:D}(i:CH a c=b):DV (La a a.l) c=A (.n b):=by
 rcases Qp a c with k|⟨g,h,j,d,f⟩;.omega
 .have:g=b:=by omega
  subst this;rw[<-f];exact h0 e d (AdN.1 d).1
variable{a:C Ab}
def t6(r:BD a){e:G}{j g:T}{xf:C F}(X:e.M j=A (.I 6 (Z Ab.c a::.m g::xf)))(J:Lv e j)(xe:Lv e g)(W:e.M g=A (.Bn [] 0))(xc:j≠g)(o:F):∃b l f,jj W9 51 2 [.n a.l,Z Ab.c a,.n 0,o,.p j 0] e=jj W9 51 1 [o,.p j 0] b/\b.M g=A (.Bn l f)/\GU l (La a a.l)/\∀c,Lv e c->c≠g->b.M c=e.M c/\Lv b c:=by
 have xl:=r.A7;let⟨_,b,t,l,f,u,p,q⟩:=Dh (h:=a.l) (f:=λd _ b=>jj W9 51 2 [.n a.l,Z Ab.c a,.n d,o,.p j 0] b)
  (g:=λd _ b=>∃l f,b.M g=A (.Bn l f)/\GU l (La a d)/\(∀c,Lv e c->c≠g->b.M c=e.M c)/\∀c,Lv e c->Lv b c)
  (λd _ b E M=>by
   let⟨l,f,u,p,q,z⟩:=M
   let⟨k,w⟩:=Bb E
   have xh:=Cm E;let⟨c,v,m,xa,y,V,xm,xo⟩:=box b (.I 5 (Ab.c k))
   let⟨xr,xp⟩:=EL b (b:=5) [(.s []),(.n 0),.sn,.sn,.sn] (c:=Ab.c k) m xa B B
   have xn:A9 5 b [.pi (Ab.c k)]=A (.S (Ab.c k)):=B;have xq:=(y.M (z j J)).t ((q j J xc).t X);have xg:=V;have U:=(y.M (z g xe)).t u;have xb:DV (La a d) k.A8=O:=a_ λxd N xk Y R=>by have v:=r.XL xd N Y;have xj:=r.XL d k w;rw[R]at v;omega
   have xi:=eD U p xb (.n d);have S:La a (d+1)=La a d++[(k.A8,.n d)]:=by show(match a[d]?with|some k=>_|none=>_)=_;rw[w]
   refine⟨(),v.set g (.Bn (l++[⟨.s k.A8,.n d,f⟩]) (f+1)),?_,_,f+1,by rw[AN,Af B],by rw[S];exact p.VS _ _ f,λc m x=>by rw[AN,Ad x];grind,λc m=>by grind⟩;show jj W9 51 2 _ _=jj W9 51 2 _ _;rw[J3.2.2.2.2.2.1];simp only[QY,J3.2.2.2.2.2.2.1,H (CB w),J3.2.2.2.2.2.2.2,H (Bh (a:=d) (by omega)), *])
  (b:=()) (a:=e) ⟨[],0,W,B,λ_ _ _=>B,λ_ b=>b⟩
 have t:jj W9 51 2 [.n a.l,Z Ab.c a,.n 0,o,.p j 0] e=jj W9 51 2 [.n a.l,Z Ab.c a,.n a.l,o,.p j 0] b:=t;have P:=CA a.l;refine⟨b,l,f,?_,u,p,λc m x=>⟨q.1 c m x,q.2 c m⟩⟩;rw[t,J3.2.2.2.2.2.1];simp only[↓Q,↓QT,AdM,P]
def nh{b:G}{h f:F}{a c:C N}(w:Aw b h N.c 2 a)(j:Aw b f N.c 2 c)(i:c.l=a.l)(y:0<a.l):∃e g,GD 2 b [h,f]=A (.n a.l,g)/\¬As h e/\Aw g h N.c 2 c/\(∀d,d≠e->g.M d=b.M d)/\∀d,Lv g d=Lv b d:=by
 rcases w with⟨_,rfl⟩|⟨e,k,rfl,z,s,E⟩;.grind
 .refine⟨e,b.set e (.I (a.l*2) (c.f N.c)),?_,λu=>u 0 a.l k 2 B,.j ⟨e,k,by grind,by grind,by rw[AN,Af B,i],by grind⟩,λd t=>by rw[AN,Ad t],λd=>by grind⟩;have l:Ii f=A a.l:=by rcases j with⟨rfl,rfl⟩|⟨_,_,rfl,_⟩<;>rw[<-i]<;>rfl
  have n:¬a.l=0:=by omega
  have m:F7 b 2 a.l f=A (c.f N.c):=by
   rcases j with⟨rfl,rfl⟩|⟨q,x,rfl,_,v,_⟩;.grind
   .show Aj _ _ _=_;rw[AdX (by omega),Gm n];show b.AL q 0 (a.l*2)=_;rw[D1 v,Af (by omega),Af (by grind)]
  have p:BU (c.f N.c)=L:=by
   clear m j l i
   induction c with
   |nil=>rfl
   |cons M J o=>rw[DJ]at o⊢;rw[Aeh,AeG,o];rfl
  show(match Ii _,Ii f with|some H,A I=>(match F7 b 2 _ f with|some _=>Aj _ _ _|none=>O)|_,_=>O)=_;rw[l];show(match F7 b 2 _ f with|some _=>Aj _ _ _|none=>O)=_;rw[Nat.min_self,m];show Aj _ _ _=_;rw[p];show Aj _ (Aj (AW a.l 0) (A (F.n 0,b)) (match b.Ep e 0 (a.l*2) (c.f N.c)with|some r=>A (F.n (Int.ofNat a.l),r)|none=>O)) O=_;rw[Gm n,Ki (by rw[s];rfl),Af (by omega),Af B];rfl
def C6.w_{q:T->Bm}{l:G}{n:D}{m:T}{j:AK}{p v r t:F}{u s:D->F}(a:C6 q l n m j p v r t u s){w:F}{o:C N}(Q:Aw l w N.c 2 o)(E:o.l=j.An.l)(z:0<j.An.l):∃k,GD 2 l [p,w]=A (.n j.An.l,k)/\C6 q k n m {j with An:=o} p v r t u s/\EM q l k (.An n):=by
 let⟨x,k,y,I,J,P,H⟩:=nh a.An Q E z
 have R:=a.Fr x I;have f:=Rr R P H;refine⟨k,y,?_,f⟩;exact{
  M:=(f m a.lv (by rw[a.B3];intro c;cases c)).1.t a.M
  lv:=(f m a.lv (by rw[a.B3];intro c;cases c)).2
  B3:=a.B3
  An:=J
  Fr:=a.Fr
  AG:=a.AG.Ar λb d e=>f b d (by rw[a.Jl b e];intro c;cases c)
  Jl:=a.Jl
  AD:=λh i g=>⟨(a.AD h i g).1.Ar λb d e=>f b d (by rw[(a.AD h i g).2 b e];intro c;cases c),(a.AD h i g).2⟩
  AS:=a.AS.Ar λb d e=>f b d (by rw[a.Fq b e];intro c;cases c)
  Fq:=a.Fq
  A4:=a.A4.Ar λb d e=>f b d (by rw[a.Jk b e];intro c;cases c)
  Jk:=a.Jk
  B1:=λh i g=>⟨(a.B1 h i g).1.Ar λb d e=>f b d (by rw[(a.B1 h i g).2 b e];intro c;cases c),(a.B1 h i g).2⟩}
def XG(a:C Ab):Ab:=(a[(CH a GN).n]?).g dP
def Ip(b:C Ab)(a:AQ):Ai:=⟨[{Dl b (XG b) (CH b GN) (-1) (-1) 0 with An:=D4::(Co a.l a.BT).2.1}],(Co a.l a.BT).1,0,0⟩
def ZO:Ai:=⟨[],[],0,0⟩
def JA(b:C Ab)(c d:D)(a:AQ):Ae (Ai×K):=
 if D5 b≠0 then A (ZO,D5 b)
 else if JS (I8 b) a≠0 then A (ZO,JS (I8 b) a)
 else if(Co a.l a.BT).2.2≠0 then A (ZO,(Co a.l a.BT).2.2)
 else Ib b c d (Ip b a)
def Um{a:K}{b:AQ}(c:JS a b=0):b.l.l=a/\b.BT.l=a/\a<=3/\∀d∈b.l,d.l<=40:=by unfold JS at c;grind
def Y5{a:AQ}(e:a.l.l=a.BT.l)(b:(Co a.l a.BT).2.2=0):(Co a.l a.BT).2.1.l=a.l.l:=by
 unfold Co at b⊢;rw[Ad (by omega)]at b⊢;split at b;.grind
 .rename_i c;rw[Ad c];split at b;.grind
  .rename_i d;rw[Ad d];have:=(Uj (b:=a.l) (c:=a.BT) (a:=a.l.l) Om e).2;rw[Aeq (by grind)]at this;grind
def cx(i:BD a){c:AQ}(n:JS (I8 a) c=0)(o:(Co c.l c.BT).2.2=0):∃(g:D)(d:Ab),CH a GN=g/\a[g]? =A d/\XG a=d/\I8 a=d.An-1/\CF a (Ip a c)/\Dw a g d {Dl a d g (-1) (-1) 0 with An:=D4::(Co c.l c.BT).2.1}:=by
 let⟨g,d,j,k,v⟩:=i.K_
 have l:XG a=d:=by unfold XG;grind
 have p:I8 a=d.An-1:=by unfold I8;grind
 let⟨r,s,t,u⟩:=Um n
 have q:=Y5 (a:=c) (by omega) o;have m:=Vi i k (-1) (-1) 0 (D4::(Co c.l c.BT).2.1) (by grind);refine⟨g,d,j,k,l,p,?_,m⟩;have h:∀{e:D}{f:AK},(Ip a c).Ac[e]? =A f->e=0/\f={Dl a d g (-1) (-1) 0 with An:=D4::(Co c.l c.BT).2.1}:=λ{e}{f} b=>by
  unfold Ip at b
  rw[l,j]at b
  cases e with
  |zero=>grind
  |succ e=>cases b
 exact{
  A7:=by show 1<=400;omega
  BC:=λe f b=>by grind
  up:=λe f b=>by obtain⟨_,rfl⟩:=h b;exact .i B
  next:=λe f b=>by obtain⟨_,rfl⟩:=h b;exact .i B
  Az:=λe f b=>by obtain⟨rfl,rfl⟩:=h b;exact⟨Afd 0,Afd 0⟩
  K_:=λe f b _=>(h b).1}
open Classical in
def nF{g:C Ab}(Y:BD g){xG xH:D}(x4:xG=400){b:AQ}(xn:JS (I8 g) b=0)(xD:(Co b.l b.BT).2.2=0){xc:Ai×K}(x8:Ib g xG xH (Ip g b)=A xc){k:G}{d j:T}{l xa:F}{I U:D->F}{r:C Bx}{R:D}(xj:k.M d=A (.I 6 [Z Ab.c g,.m j,.sn,l,.n 0,.n 0]))(xo:Lv k d)(xy:k.M j=A (.Bn r R))(xF:Lv k j)(xR:GU r (La g g.l))(xO:CY k l I U (Co b.l b.BT).1)(yj:Aw k xa N.c 2 (Co b.l b.BT).2.1)(yK:d≠j)(yg:∀a,B8 l I U (Co b.l b.BT).1.l a->a≠d/\a≠j/\As xa a)(yO:∀a,¬As xa a->a≠d/\a≠j){X:T->Prop}(yF:∀a,X a->Lv k a/\a≠d/\a≠j/\¬B8 l I U (Co b.l b.BT).1.l a):∃xl,jj W9 51 1 [xa,.p d 0] k=A (.AB [.p d 0,.n xc.2],xl)/\Bo X k xl/\DC ⟨g,r,R,d⟩ xl xc.1 X:=by
 let⟨y,E,xz,xm,x5,yI,xQ,yq⟩:=cx Y xn xD
 let⟨yx,yy,yz,yA⟩:=Um xn
 have yu:=Y5 (a:=b) (by omega) xD;have yv:=(Y.Bc y E xm).An;have xX:O_ k (.m j)=A r:=by show(match HQ (k.M j)with|some (r,_)=>A r|none=>O)=_;rw[xy];rfl
 have yc:EP Aa [2] (.n 0) Aa k [.m j,.s [109,97,105,110]]=A (.n y):=by have:=WN (d:=Aa) (e:=.n 0) xX xR GN;rw[hZ Y xz]at this;exact this
 let⟨s,J,xd,xp,yk,xY,x1,yi,x0,x9,xI,xP,xt⟩:=go xm (YU Y xm) (-1) (-1) 0 xj xo 0
 have xw:Dq 1 1 J.next [.p s 0]=A (.I 1 [.p s 0],.Z J.next 0 1 2 1):=VK J.next B;let⟨e,V,x2,yG,xK,xi,yM,yN⟩:=box J (.I 1 [.p s 0])
 rw[x2]at xw;have xh:=Gx (d:=2) (a:=.Z e 0 1 2 1) ((xK.M (xt.lv xo)).t ((xt.M xo).t xj)) (by omega) (by omega) B B;have xW:Dg 2 [.Z e 0 1 2 1] [Z Ab.c g,.m j,.sn,l,.n 0,.n 0]=[Z Ab.c g,.m j,.Z e 0 1 2 1,l,.n 0,.n 0]:=B;rw[xW]at xh;have xb:∀a,a≠d->(V.set d (.I 6 [Z Ab.c g,.m j,.Z e 0 1 2 1,l,.n 0,.n 0])).M a=V.M a:=λa n=>by rw[AN,Ad n]
 have xk:(V.set d (.I 6 [Z Ab.c g,.m j,.Z e 0 1 2 1,l,.n 0,.n 0])).M d=A (.I 6 [Z Ab.c g,.m j,.Z e 0 1 2 1,l,.n 0,.n 0]):=by rw[AN,Af B]
 have ye:∀a,Lv (V.set d (.I 6 [Z Ab.c g,.m j,.Z e 0 1 2 1,l,.n 0,.n 0])) a=Lv V a:=by grind
 generalize V.set d (.I 6 [Z Ab.c g,.m j,.Z e 0 1 2 1,l,.n 0,.n 0])=m at xh xb xk ye;have xf:∀a,Lv k a->a≠d->m.M a=k.M a/\Lv m a:=by grind
 have yB:¬Lv k e:=by grind
 have xg:e≠d:=by grind
 obtain⟨q,yn,ym,yQ,yl,yR,yP⟩:∃q:T->Bm,q d=.Ex/\q j=.Bn/\q e=.Ac/\(∀a,B8 l I U (Co b.l b.BT).1.l a->q a=.Am)/\(∀a,Lv J a->¬Lv k a->q a=xd a)/\∀a,Lv k a->a≠d->a≠j->¬B8 l I U (Co b.l b.BT).1.l a->q a=.C5:=by
  refine⟨λa=>if a=d then .Ex else if a=j then .Bn else if a=e then .Ac else if B8 l I U (Co b.l b.BT).1.l a then .Am else xd a,P,P,P,λa n=> ?_,λa n x6=> ?_,λa n yC yD yE=> ?_⟩;.grind
  .grind
  .grind
 have xr:=xI.Ar (u:=q) (k:=m) (λa n xE=>by
  have x6:¬Lv k a:=λR=>by rw[xP a R]at xE;exact xE
  grind:∀a,Lv J a->(xd a).of 0->m.M a=J.M a/\Lv m a/\q a=xd a)
 have xV:Cb [(.i .u8 0),(.n 0)] [(0,1)] [(.i .u8 3)]=A (.S (N.c D4)):=B;have xx:Dq 1 2 m.next [.S (N.c D4)]=A (.I 2 (N.c D4),.Z m.next 0 1 2 2):=VK (w:=2) m.next B;let⟨xq,xA,x7,yH,xL,xZ,yb,yf⟩:=box m (.I 2 (N.c D4))
 rw[x7]at xx;let⟨yo,W,xT,yh,yp,yt⟩:=iJ (d:=N.c) (b:=2) (l:=16) (λ_=>B) (λ_=>B) (.j ⟨xq,2,B,.j B,xZ,yb⟩:Aw xA (.Z xq 0 1 2 2) N.c 2 [D4]) (yj.Ar λa n xH=>by grind:Aw xA xa N.c 2 (Co b.l b.BT).2.1) (DG (by grind))
 have xe:AH m W:=λa n=>by have:=yp a (xL.lv n) (EN λxS=>yf (by grind):As (.Z xq 0 1 2 2) a);grind
 have xs:=xr.ext xe;have xv:=({
  M:=xk
  lv:=by grind
  B3:=yn
  Bn:=(xf j xF P).1.t xy
  GM:=(xf j xF P).2
  F0:=ym
  Ac:=.j ⟨e,2,B,P,(xb e xg).t xi,by grind⟩
  Ir:=λa n=>by have:a=e:=AdS λxS=>n (EN P);grind
  Am:=xO.Ar λa n x3=>xf a n (yg a x3).1
  Is:=yl
  BC:=λyL yw xn=>by grind}:EB q m g r R d ⟨[Dl g E y (-1) (-1) 0],(Co b.l b.BT).1,0,0⟩ ⟨j,.Z e 0 1 2 1,l,I,U,λ_=>s,λ_=>xp,λ_=>yk,λ_=>xY,λ_=>x1,λ_=>yi,λ_=>x0⟩).ext xe
 have yd:Aj (Bv .Cq [.p s 4] W xp) (Aj (Bv .Cq [.p e 0] W (.p s 0)) (Aj (Bv .Cq [.p d 2] W (.Z e 0 1 2 1)) L Aa) Aa) Aa=L:=by rw[GL (Ay xs.M 4),GL (a:=W) (c:=e) (b:=0) (Ay ((xe.M (by grind)).t ((xb e xg).t xi)) 0),GL (Ay xv.M 2)];rfl
 have yJ:(Dl g E y (-1) (-1) 0).An.l=E.An.n:=by show(BG _ _).l=_;grind
 let⟨xB,xU,xJ,xu⟩:=xs.w_ (w:=yo) (o:=[D4]++(Co b.l b.BT).2.1) yh (by grind) (by grind)
 have xM:∀a,X a->Lv W a/\q a=.C5:=by grind
 have yr:=xu.Fp (by grind) xM;let⟨xC,ya,xN,ys⟩:=ak (b:=⟨g,r,R,d⟩) Y x4 (⟨_,q,_,by
  have:Ip g b=Ai.AJ ⟨[Dl g E y (-1) (-1) 0],(Co b.l b.BT).1,0,0⟩ 0 {Dl g E y (-1) (-1) 0 with An:=[D4]++(Co b.l b.BT).2.1}:=by unfold Ip;rw[x5,xz];rfl
  rw[this];exact(xv.NI (i:=0) (c:=Dl g E y (-1) (-1) 0) B (t:=.An 0) B xu xJ),B,P⟩:DC ⟨g,r,R,d⟩ xB (Ip g b) X) xQ x8
 refine⟨xC,?_,P,xN⟩;rw[J3.2.2.2.2.1];simp only[↓Q,↓H (Ay xj 1:k.Ap d 1=A (.m j)),↓H yc,↓H x9,↓H xw,↓H xh,↓H (Ay xk 2:m.Ap d 2=A (.Z e 0 1 2 1)),↓H (B:AR 1 [.Z e 0 1 2 1,.n 0]=A (.p e 0)),↓H (Ay ((xb e xg).t xi) 0:m.Ap e 0=A (.p s 0)),↓H (Ay xr.M 4:m.Ap s 4=A xp),↓H xV,↓H xx,↓H xT,↓Gn yd,↓H xU,↓H (ya:W9 (pos 54) [.p d 0] xB=A (.n xc.2,xC)), *]
def c8(e:C Ab)(f:F)(d:G)(c:Ai)(b:T->Prop):Prop:=∃a:CI,a.l=e/\f=.p a.x 0/\Li a/\DC a d c b
def gc(xE:Cl a){xk xS:D}(xF:xk=400)(c:AQ)(xw:c.l.l<=2000000)(xx:D3 c.l<=100000000){z:Ai×K}(i:JA a xk xS c=A z)(k:G){n:T->Prop}(ye:∀h,n h->Lv k h):∃e u,W9 (pos 51) [Z Ab.c a,.S (AQ.c c)] k=A (.AB [e,.n z.2],u)/\Bo n k u/\(∀h,n h->Lv u h)/\(z.2=0->c8 a e u z.1 n):=by
 let⟨y,l,xI,xB,x4,N,yg,yh⟩:=box k (.I 2 (AQ.c c))
 have x1:∀(f:F->G->R),bl (.p k.next 0) (k.V (.I (Bq (F.I (.S (AQ.c c)))) (F.I (.S (AQ.c c))))) f=f (.p y 0) l:=Dy k (.I 2 (AQ.c c)) xI xB;have xV:l.AL y 0 2=A (AQ.c c):=BB N;have xq:l.Ap y 0=A (Z Cv c.l):=Ay N 0;have xr:l.Ap y 1=A (Z CN c.BT):=Ay N 1;have o:=q9 a xE;unfold JA at i;by_cases q:D5 a=0
 .rw[Ad (by grind)]at i;rw[Af q,q]at o;have t:=q_ (I8 a) c (by omega);by_cases M:JS (I8 a) c=0
  .rw[Ad (by grind)]at i;rw[M]at t;let⟨xK,xL⟩:=ra c.l c.BT xw xx l
   by_cases r:(Co c.l c.BT).2.2=0
   .rw[Ad (by grind)]at i;let⟨e,x0,x9,yo,b,xj,I,xT,xl,yb,yc⟩:=xL r
    have J:=HU q;let⟨x,xg,W,V,E,S,xO,Y⟩:=box b (.I 1 [.sn])
    have x2:∀(f:F->G->R),bl (.p b.next 0) (b.V (.I 1 [.sn])) f=f (.p x 0) xg:=Dy b (.I 1 [.sn]) W V;let⟨g,xY,xW,s⟩:=PR S (Cr I.o).2
    have xa:AH b g:=by rw[s];exact E.Gw Y _
    let⟨d,p,xG,xC,xb,yd,xP,yi⟩:=box g (.Bn [] 0)
    have yp:∀(f:F->G->R),bl (.m g.next) (g.V (.Bn [] 0)) f=f (.m d) p:=λf=>by rw[<-xG,<-xC];rfl
    have xQ:Lv g x:=by grind
    have ym:p.AL x 0 1=A [e]:=BB ((xb.M xQ).t (by rw[s,AN,Af B]));have ya:Cb [.sn,.mn,.sn,.sn,(.n 0),(.n 0)] [(0,1),(1,1),(3,1)] [Z Ab.c a,.m d,.S [e]]=A (.S [Z Ab.c a,.m d,.sn,e,.n 0,.n 0]):=by rcases I.o with⟨rfl,_⟩|⟨_,_,rfl,_⟩<;>rfl
    let⟨j,U,xH,xD,xm,xf,X,yj⟩:=box p (.I 6 [Z Ab.c a,.m d,.sn,e,.n 0,.n 0])
    have yq:∀(f:F->G->R),bl (.p p.next 0) (p.V (.I (Bq (F.I (.S [Z Ab.c a,.m d,.sn,e,.n 0,.n 0]))) (F.I (.S [Z Ab.c a,.m d,.sn,e,.n 0,.n 0])))) f=f (.p j 0) U:=Dy p (.I 6 [Z Ab.c a,.m d,.sn,e,.n 0,.n 0]) xH xD;have w:j≠d:=by grind
    let⟨m,xt,xJ,xM,xu,xd,xe⟩:=t6 J xf X P P w x0
    have x5:AH b U:=xa.AI (xb.AI xm);have yk:¬Lv b d:=by grind
    have yl:¬Lv b j:=by grind
    have x6:∀h,Lv b h->m.M h=b.M h/\Lv m h:=by grind
    have xn:=I.Ar (j:=m) P;have xU:=xT.Ar (c:=m) P;have xv:=(xe j X w).1.t xf;have xR:Lv m d:=by
     by_cases xA:Lv m d;.grind
     .exfalso;have:m.next.num<=d.num:=Nat.le_of_not_lt xA;have xy:=(xe j X w).2;unfold Lv at xy;have yf:d.num<j.num:=by have:=xP;unfold Lv at this;grind
      omega
    let⟨xh,xN,x7,xc⟩:=nF J xF M r i xv P xu xR xd xn xU w
     P
     P (X:=n)
     (λh xi=>by grind)
    have xo:Li ⟨a,xt,xJ,j⟩:=⟨La a a.l,xd,λyn x8 xz=>hZ J xz⟩;have xp:Bo n k xh:=by grind
    refine⟨.p j 0,xh,AZ B B ?_,xp,λh xi=>xc.C4 xi,λ_=>⟨_,B,B,xo,xc⟩⟩;have xZ:AX 1 (b.V (.I 1 [.sn])) [.p b.next 0,.S [e]]=A (AC,g):=by grind
    have xX:(g.V (.Bn [] 0)).AL b.next 0 1=A [e]:=by grind
    have xs:Cb [.sn,.mn,.sn,.sn,(.n 0),(.n 0)] [(0,1),(1,1),(3,1)] [Z Ab.c a,.m g.next,.S [e]]=A (.S [Z Ab.c a,.m d,.sn,e,.n 0,.n 0]):=by grind
    have x3:∀(f:F->G->R),bl (.p (g.V (.Bn [] 0)).next 0) ((g.V (.Bn [] 0)).V (.I (Bq (F.I (.S [Z Ab.c a,.m d,.sn,e,.n 0,.n 0]))) (F.I (.S [Z Ab.c a,.m d,.sn,e,.n 0,.n 0])))) f=f (.p j 0) U:=by grind
    rw[J3.1];simp only[↓x1,↓x3,↓Q,↓QT,↓o.H B,↓H xV,↓t.H B,J3.2.1,J3.2.2.1,↓H xq,↓H xr,↓H xj,↓H xZ,J3.2.2.2.1,↓H xX,↓H xs,xM,xN]
   .rw[Af r]at i;cases i
    let⟨b,xj,xl⟩:=xK r
    let⟨x,xg,W,V,E,S,xO,Y⟩:=box b (.I 1 [.sn])
    have x2:=Dy b (.I 1 [.sn]) W V;let⟨g,xY,xW,s⟩:=PR S (b:=.sn) B
    have xa:AH b g:=by rw[s];exact E.Gw Y _
    refine⟨.pn,g,AZ B B ?_,P,P,Om⟩;rw[J3.1];simp only[QY,o.H B,t.H B,J3.2.1,J3.2.2.1, *]
  .rw[Af M]at i;cases i
   refine⟨.pn,l,AZ B B ?_,P,P,Om⟩;rw[J3.1];simp only[QY,o.H B,t.H B,J3.2.1, *]
 .rw[Af q]at i;cases i
  rw[Ad q]at o;refine⟨.pn,l,AZ B B ?_,P,P,Om⟩;rw[J3.1];simp only[QY,o.H B,J3.2.1, *]
def Hr(b:C Ab)(c d e:D)(f:AQ):Ae (Ai×K):=match JA b c d f with
 |some a=>if a.2≠0 then A a else HW b c d e a.1
 |none=>O
def f9{f:C Ab}(N:Cl f){h o R:D}(t:h=400)(d:AQ)(H:d.l.l<=2000000)(I:D3 d.l<=100000000){r:Ai->Prop}(x:∀b:CI,b.l=f->Li b->P5 b h r)(v:∀a,JA f h o d=A a->a.2=0->r a.1){a:Ai×K}(e:Hr f h o R d=A a)(j:G){g:T->Prop}(xc:∀c,g c->Lv j c):∃p k,W9 (pos 43) [Z Ab.c f,.S (AQ.c d)] j=A (.AB [p,.n a.2],k)/\Bo g j k/\(a.2≠0->∀c,g c->Lv k c)/\(a.2=0->c8 f p k a.1 g):=by
 let⟨xh,E,xe,xd,V,xb,xf,xg⟩:=box j (.I 2 (AQ.c d))
 unfold Hr at e
 cases l:JA f h o d with
 |none=>grind
 |some c=>
  rw[l]at e;simp only[]at e;let⟨p,J,S,X,W,w⟩:=gc N t d H I l E (n:=g) P
  by_cases i:c.2=0
  .rw[Ad (by grind)]at e;obtain⟨b,M,rfl,m,u⟩:=w i;subst M;have y:D5 b.l=0:=by
    unfold JA at l;by_cases xa:D5 b.l=0;.grind
    .grind
   let⟨s,U,q,Y⟩:=qQ (HU y) m t (x b B m) (v c l i) u e
   rw[i]at S;by_cases n:a.2=0;.rw[n]at U;refine⟨.p b.x 0,s,AZ B B ?_,P,λz=>BF n z,λ_=>⟨b,B,B,m,q⟩⟩;rw[Q6.1,n];simp only[QY,Q6.2.1,Q6.2.2, *]
   .refine⟨.pn,s,AZ B B ?_,P,λ_ c Q=>q.C4 Q,Om⟩;rw[Q6.1];simp only[QY,Q6.2.1, *]
  .rw[Af i]at e;cases e
   refine⟨.pn,J,AZ B B ?_,P,P,Om⟩;rw[Q6.1];simp only[QY,Q6.2.1, *]
end Go.Proofs.YtbmnfifnenajjaaGreat
namespace Go.Proofs.YtbmnfifnenajjaaGreat
open Go.Fg Go.Sort
def Ro{f:Type}(c:G)(d:F)(h:f->C F)(e:D)(a:C f):Prop:=(d=.sn/\a=[])\/∃b g,d=.Z b 0 a.l g e/\DR (c.M b)=A (a.l*e,a.f h)/\Lv c b
variable{d:F}
def Aw.ro{m:Type}{b:G}{a:m->C _}{e:D}{c:C _}(l:Aw b d a e c):Ro b d a e c:=by
 rcases l with k|⟨f,g,h,_,i,j⟩;.exact .i k
 .exact .j ⟨f,g,h,by rw[i];rfl,j⟩
variable{f:F}
def Ro.Ar{l:Type}{c d:G}{i:l->C F}{g:D}{e:C l}(q:Ro c f i g e)(p:∀b k a,Lv c b->¬As f b->DR (c.M b)=A (k,a)->DR (d.M b)=A (k,a)/\Lv d b):Ro d f i g e:=by
 rcases q with r|⟨h,a,j,n,o⟩;.exact .i r
 .have:=p h _ _ o (λm=>m 0 e.l a g j) n;exact .j ⟨h,a,j,P,P⟩
variable{e:G}
def Ro.fs{r:Type}{h:T->Prop}{a:r->C _}{g:D}{b:C _}(q:Ro e f a g b)(j:∀l,¬As f l->h l)(k:∀c,(a c).l=g)(s:∀c,(a c).all Im=L):Fs h 2 e f (YtbmnfifnenajjaaGreat.Z a b):=by
 rcases q with⟨rfl,rfl⟩|⟨m,n,rfl,i,_⟩;.exact(Fs.sn e).up (by omega)
 .refine Fs.M0 (k:=1) (j m (λp=>p 0 b.l n g B)) k k i ?_
  clear i j
  induction b with
  |nil=>exact .nil
  |cons c t o=>exact .cons (BS.Oh P) o
def Ro.dq{g:Type}{c:G}{a:F}{b:g->C _}{f:D}{d:C _}(e:Ro c a b f d):Fl a=L:=by rcases e with⟨rfl,_⟩|⟨h,i,rfl,_⟩<;>rfl
abbrev WE:=F×Bt
instance:Inhabited WE:=⟨(.sn,⟨[],0⟩)⟩
def CG(a:WE):C F:=[a.1,.n a.2.Ax]
def BL(a b:WE):Ah:=Ao (D6 a.2 b.2<0)
structure SI(c:C WE)(g:G)(e:F)(d:G)(f:Bg WE):Prop where
 Cs:Aw d e CG 2 f.l
 sub:∀a∈f.l,a∈c
 ro:∀a∈c,Ro d a.1 Bf.c 2 a.2.B4
 A7:∀a∈c,a.2.B4.l<1000000000
 HF:∀a∈c,∀b,¬As a.1 b->As e b
 fr:∀b,Lv g b->((As e b/\∀a∈c,As a.1 b)->d.M b=g.M b)/\Lv d b
variable{b:D}
def T8{a:Bg WE}(c:b<a.z):a.l[b]? =A a[b]! :=by grind
def Wl{a:Bg WE}(c:b<a.z):a[b]!∈a.l:=AdU (T8 c)
variable{c:D}
def j8{a:Bg WE}:(swp a b c).l=(a.l.set b a[c]!).set c a[b]! :=by unfold swp;grind
def ub:F->T
 | .Z a _ _ _ _=>a
 |_=>.h
def cP{c:F}{a:T}(e:¬As c a):ub c=a:=by refine AdS λb=>e ?_;intro h g f i d;rw[d]at b;exact b B
variable{a:D}{i:G}
def SI.rd{g:C _}{b:F}{d:Bg WE}(h:SI g i b e d)(j:a<d.z):AR 2 [b,.n a]=A (.p (ub b) (a*2))/\e.AL (ub b) (a*2) 2=A (CG d[a]!):=by
 let⟨k,c⟩:=CD (f:=CG) (w:=2) (λ_=>B) h.Cs (T8 j)
 rw[cP c.nb];exact⟨c.ia,c.AL (f:=CG) (λ_=>B) P⟩
def SI.dr{d:C _}{f:G}{h:F}{c:Bg _}(b:SI d f h e c){a:WE}(g:a∈c.l):BU (CG a)=L:=by unfold CG;rw[DJ];simp[(b.ro a (b.sub a g)).dq]
def SI.KM{n:C WE}{q:G}{e:F}{a:Bg WE}(b:SI n q e i a){d:D}(m:d<a.z)(t:c<a.z):
  ∃r s,AR 2 [e,.n d]=A (.p (ub e) (d*2))/\AR 2 [e,.n c]=A (.p (ub e) (c*2))/\i.AL (ub e) (d*2) 2=A (CG a[d]!)/\i.AL (ub e) (c*2) 2=A (CG a[c]!)/\
   AX 2 i [.p (ub e) (d*2),.S (CG a[c]!)]=A (AC,r)/\AX 2 r [.p (ub e) (c*2),.S (CG a[d]!)]=A (AC,s)/\SI n q e s (swp a d c):=by
 let⟨U,h⟩:=CD (f:=CG) (w:=2) (λ_=>B) b.Cs (T8 m)
 let⟨I,l⟩:=CD (f:=CG) (w:=2) (λ_=>B) b.Cs (T8 t)
 have Q:=h.only I l.nb
 subst Q
 let⟨M,E⟩:=h.set (f:=CG) (w:=2) (λ_=>B) b.Cs P (c:=a[c]!) (g:=.S (CG a[c]!)) B (b.dr (Wl t))
 have T:c<(a.l.set d a[c]!).l:=by grind
 let⟨xa,x⟩:=Bb T
 let⟨p,o⟩:=CD (f:=CG) (w:=2) (λ_=>B) E x
 have R:=h.only p o.nb
 subst R
 let⟨N,Z⟩:=o.set (f:=CG) (w:=2) (λ_=>B) E x (c:=a[d]!) (g:=.S (CG a[d]!)) B (b.dr (Wl m))
 have H:=h.nb
 rw[cP H]
 refine⟨_,_,h.ia,l.ia,h.AL (f:=CG) (λ_=>B) (T8 m),l.AL (f:=CG) (λ_=>B) P,M,N,?_⟩
 exact{
  Cs:=by rw[j8];grind
  sub:=λk g=>by
   rw[j8]at g;rcases AfH g with g|rfl
   .rcases AfH g with g|rfl;.exact b.sub k g
    .exact b.sub _ P
   .exact b.sub _ P
  ro:=λk g=>(b.ro k g).Ar λj Y V v S W=>by have u:j≠p:=λJ=>H (by rw[<-J];exact b.HF k g j S);exact⟨by rw[AN,Ad u,AN,Ad u];grind,by grind⟩
  A7:=b.A7
  HF:=b.HF
  fr:=λj v=>by have:=b.fr j v;refine⟨λX=> ?_,by grind⟩;rw[AN,Ad P,AN,Ad P];grind}
variable{s:G}
def SI.Mc{n:C WE}{q:F}{a:Bg WE}(d:SI n s q e a){k l:D}(y:k<a.z)(z:l<a.z):∃j,C8 W9 (.f (pos 85) []) [.S (CG a[k]!),.S (CG a[l]!)] e=A (.n (D6 a[k]!.2 a[l]!.2),j)/\SI n s q j a:=by
 have p:=d.sub _ (Wl y);have u:=d.sub _ (Wl z);have r:∀g∈n,(∀b,¬As g.1 b->(¬As a[k]!.1 b\/¬As a[l]!.1 b))->Fs (λb=>¬As a[k]!.1 b\/¬As a[l]!.1 b) 3 e (.S (CG g)) (.S (Bt.c g.2)):=λg o E=>
  Fs.S (BS.cons ((d.ro g o).fs E (λ_=>B) (λ_=>B)) (BS.cons ((Fs.im (c:=e) (a:=.n g.2.Ax) B).up (by omega)) (BS.nil 2 e)))
 let⟨j,w,i⟩:=BS.FV (BS.cons (r _ p λb h=>.i h) (BS.cons (r _ u λb h=>.j h) (BS.nil 3 e))) (by omega)
 refine⟨j,gh a[k]!.2 a[l]!.2 (d.A7 _ p) e _ j w,?_⟩;have M:∀f,¬As q f->j.M f=e.M f:=λf h=>i.o f (by
  rintro(m|m)
  .exact h (d.HF _ p f m)
  .exact h (d.HF _ u f m))
 exact{
  Cs:=d.Cs.Ar λf J h=>⟨P,by rw[i.l];grind⟩
  sub:=d.sub
  ro:=λg o=>(d.ro g o).Ar λb I v t _ x=>⟨i.p.1 b I v x,by rw[i.l];grind⟩
  A7:=d.A7
  HF:=d.HF
  fr:=λb t=>by have:=d.fr b t;refine⟨λm=> ?_,by rw[i.l];grind⟩;rw[i.o b (by grind)];grind}
theorem IK(a b:WE):BL a b=Ao (D6 a.2 b.2<0):=rfl
def Ye(h:Nat.testBit a c=L){e:Rd}{g:C F}{b:G}{d:F×G}:Aj (C0 a b (C2 (A1 L (.b L)) ⟨c,e,g,f⟩ [])) (A d) O=A d:=by show Aj (Aj (Aj (Nat.testBit a c) L (Bv e g b f)) (C0 a b []) Aa) _ _=_;rw[h];rfl
def Yc{c:Rd}{e:C F}{b:G}{a:F×G}:Aj (C0 16383 b (C2 (A1 L (.b L)) ⟨8,c,e,d⟩ [])) (A a) O=A a:=Ye (by grind)
def Yd{c:Rd}{e:C F}{b:G}{a:F×G}:Aj (C0 8191 b (C2 (A1 L (.b L)) ⟨8,c,e,d⟩ [])) (A a) O=A a:=Ye (by grind)
def jE{c:Rd}{e:C F}{b:G}{a:F×G}:Aj (C0 524287 b (C2 (A1 L (.b L)) ⟨11,c,e,d⟩ [])) (A a) O=A a:=Ye (by grind)
def Zk(b:a<1000000000):A6 .sub [.n (a+1:D),.n 1]=A (.n a):=by rw[FA (by omega) (by omega)];grind
def JU(b:a<1000000000)(c:0<a):A6 .sub [.n a,.n 1]=A (.n (a-1:D)):=by rw[FA (by omega) (by omega)];grind
def Mx(c:a+b<1000000000):A6 .add [.n a,.n b]=A (.n (a+b:D)):=by rw[F2 (by omega) (by omega)];grind
def Mu(c:b<=a)(d:a<1000000000):A6 .sub [.n a,.n b]=A (.n (a-b:D)):=by rw[FA (by omega) (by omega)];grind
def VC(c:a<1000000000)(d:b≠0):A6 .quo [.n a,.n b]=A (.n (a/b:D)):=by rw[X7 _ _ (by unfold Dk;omega) (by omega),Agd (by omega)];grind
def cs(c:D):∀(b:D)(a:Bg _),(insInner BL c b a).z=a.z
 |0,a=>rfl
 |b+1,a=>by
  unfold insInner;split;.rw[cs c b,size_swp]
  omega
def gX{n:C _}{q:G}{h:F}(m c:D)(k:F):∀(a:D){d:G}{b:Bg _},SI n q h d b->a<b.z->b.z<1000000000->∃p,jj W9 211 3 [.n a,.n m,k,.n c,.f (pos 85) [],h] d=jj W9 211 2 [.n m,k,.n c,.f (pos 85) [],h] p/\SI n q h p (insInner BL c a b)
 |0,d,b,e,g,v=>by
  have l:¬c<((0:D):K):=by omega
  refine⟨d,?_,e⟩;rw[MN.2.2.2.2.1];simp only[↓Q,↓QT,AdM,l]
 |a+1,d,b,e,g,v=>by
  by_cases l:c<a+1
  .have f:c<((a+1:D):K):=by omega
   let⟨E,_⟩:=e.rd g
   let⟨H,J⟩:=e.rd (a:=a) (by omega)
   let⟨t,I,r⟩:=e.Mc g (l:=a) (by omega)
   have y:=Zk (a:=a) (by omega);by_cases o:D6 b[a+1]!.2 b[a]!.2<0
   .let⟨z,_,_,_,_,_,_,_,s⟩:=r.KM g (c:=a) (by omega)
    let⟨u,w,x⟩:=gX m c k a s (by rw[size_swp];omega) (by rw[size_swp];grind)
    refine⟨u,?_,?_⟩;.rw[MN.2.2.2.2.1];simp only[Q,QT,f,Yc,o,MN.2.2.2.2.2.1,MN.2.2.2.2.2.2,w,ZR, *]
    .have:insInner BL c (a+1) b=insInner BL c a (swp b (a+1) a):=by
      show(if _ then _ else _)=_
      rw[Af]
      rw[AdO,AdV]
      exact⟨l,by rw[IK,AdV];grind⟩
     grind
   .refine⟨t,?_,?_⟩;.rw[MN.2.2.2.2.1];simp only[Q,QT,AdM,f,Yc,o,ZR, *]
    .have:insInner BL c (a+1) b=b:=by
      show(if _ then _ else _)=_
      rw[Ad]
      rw[AdO,IK,AdV]
      grind
     grind
  .have f:¬c<((a+1:D):K):=by omega
   refine⟨d,?_,?_⟩;.rw[MN.2.2.2.2.1];simp only[↓Q,↓QT,AdM,f]
   .have:insInner BL c (a+1) b=b:=by
     show(if _ then _ else _)=_
     grind
    grind
def gY{h:C _}{m:G}{g:F}(e b:D):∀(f a:D){d:G}{c:Bg WE},b-a=f->SI h m g d c->b<=c.z->c.z<1000000000->a<1000000000->∃l,jj W9 211 1 [.n b,.n e,.f (pos 85) [],g,.n a] d=A (.AB [],l)/\SI h m g l (insOuter BL e b a c)
 |0,a,d,c,s,j,q,n,r=>by
  have k:¬a<(b:K):=by omega
  refine⟨d,?_,?_⟩;.rw[MN.2.1];simp only[↓Q,↓QT,AdM,k]
  .rw[insOuter,Ad (by omega)];grind
 |f+1,a,d,c,s,j,q,n,r=>by
  have k:(a:K)<(b:K):=by omega
  let⟨u,v,o⟩:=gX a e (.n (b:K)) a j (by omega) n
  let⟨p,w,t⟩:=gY e b f (a+1) (by omega) o (by rw[cs];grind) (by rw[cs];grind) (by omega)
  refine⟨p,?_,?_⟩;.rw[MN.2.1];simp only[↓Q,↓QT,MN.2.2.1,MN.2.2.2.1,↓H (Bh (a:=a) (by omega)), *]
  .rw[insOuter,Af (by omega)];grind
def pW{e:C _}{h f:G}{c:Bg WE}(j:SI e h d f c)(o:a<=b)(m:b<=c.z)(p:c.z<100000000):∃g,W9 (pos 211) [d,.n a,.n b,.f (pos 85) []] f=A (.AB [],g)/\SI e h d g (insertionSort BL c a b):=by
 let⟨l,n,k⟩:=gY a b (b-(a+1)) (a+1) B j m (by omega) (by omega)
 refine⟨l,AZ B B ?_,k⟩;rw[MN.1];simp only[↓H (Bh (a:=a) (by omega)),n]
def uq(b:a<400000000):A6 .mul [.n 2,.n a]=A (.n (2*a:D)):=by rw[Vg 2 _ (by unfold Dk;omega) (by unfold Dk;omega)];grind
def VP(d e:D):∀(b c:D)(a:Bg WE),d-c<=b->(siftDown BL d e c a).z=a.z
 |0,c,a,f=>by rw[siftDown,dif_pos (by omega)]
 |b+1,c,a,f=>by
  rw[siftDown];split;.rfl
  .split
   .split;.rfl
    .split;.rw[VP _ _ b _ _ (by omega),size_swp]
     omega
   .split;.rfl
    .rw[VP _ _ b _ _ (by omega),size_swp]
def jU{p:C WE}{u:G}{l:F}(g d:D):∀(o c:D){t:G}{f:Bg WE},g-c<=o->SI p u l t f->d+g<=f.z->f.z<100000000->c<100000000->∃m,jj W9 250 1 [.n g,.f (pos 85) [],l,.n d,.n c] t=A (.AB [],m)/\SI p u l m (siftDown BL g d c f)
 |o,c,t,f,xk,q,xh,xm,xl=>by
  have xn:=uq (a:=c) (by omega);have V:=Bh (a:=2*c) (by omega);by_cases s:2*c+1>=g
  .have w:g<=((2*c+1:D):K):=by omega
   refine⟨t,?_,?_⟩;.rw[MO.2.1];simp only[QY, *]
   .rw[siftDown,dif_pos s];grind
  .cases o with
   |zero=>omega
   |succ o=>
   have w:¬g<=((2*c+1:D):K):=by omega
   have W:=Bh (a:=2*c+1) (by omega)
   have E:∀(e:D){y:G},SI p u l y f->e<g->e>c->e<200000000->∃m,jj W9 250 3 [.n (c:K),.n (e:K),.n (g:K),.f (pos 85) [],l,.n (d:K)] y=A (.AB [],m)/\SI p u l m (if !BL f[d+c]! f[d+e]!then f else siftDown BL g d e (swp f (d+c) (d+e))):=by
    intro e y v xg xi xj;have xf:=Mx (a:=d) (b:=c) (by omega);have xe:=Mx (a:=d) (b:=e) (by omega);let⟨P,xo⟩:=v.rd (a:=d+c) (by omega)
    let⟨R,T⟩:=v.rd (a:=d+e) (by omega)
    let⟨I,J,r⟩:=v.Mc (k:=d+c) (l:=d+e) (by omega) (by omega)
    rw[Kv]at J;have xb:DE [.b L]=A (.b Aa):=B;have xa:DE [.b Aa]=A (.b L):=B;by_cases h:D6 f[d+c]!.2 f[d+e]!.2<0
    .let⟨k,_,_,_,_,_,Y,Z,M⟩:=r.KM (d:=d+c) (c:=d+e) (by omega) (by omega)
     let⟨N,S,U⟩:=jU g d o e (by omega) M (by rw[size_swp];grind) (by rw[size_swp];grind) (by omega)
     refine⟨N,?_,?_⟩;.rw[MO.2.2.2.1];simp only[QY,Kv,h,MO.2.2.2.2,S, *]
     .rw[IK,A0 h,Ad (by grind)];grind
    .refine⟨I,?_,?_⟩;.rw[MO.2.2.2.1];simp only[QY,Kv,h, *]
     .rw[IK,A2 h,Af (by grind)];grind
   by_cases X:2*c+1+1<g
   .have x:((2*c+1+1:D):K)<(g:K):=by omega
    have xc:=Mx (a:=d) (b:=2*c+1) (by omega);have xd:=Bh (a:=d+(2*c+1)) (by omega);let⟨P,_⟩:=q.rd (a:=d+(2*c+1)) (by omega)
    let⟨R,T⟩:=q.rd (a:=d+(2*c+1)+1) (by omega)
    let⟨I,J,r⟩:=q.Mc (k:=d+(2*c+1)) (l:=d+(2*c+1)+1) (by omega) (by omega)
    by_cases h:D6 f[d+(2*c+1)]!.2 f[d+(2*c+1)+1]!.2<0
    .let⟨k,z,H⟩:=E (2*c+1+1) r (by omega) (by omega) (by omega)
     refine⟨k,?_,?_⟩;.rw[MO.2.1];simp only[Q,QT,AdM,w,MO.2.2.1,x,jE,h,z,ZR, *]
     .rw[siftDown,dif_neg s,Af (by rw[AdO,AdV,IK,AdV];grind)];grind
    .let⟨k,z,H⟩:=E (2*c+1) r (by omega) (by omega) (by omega)
     refine⟨k,?_,?_⟩;.rw[MO.2.1];simp only[Q,QT,AdM,w,MO.2.2.1,x,jE,h,z,ZR, *]
     .rw[siftDown,dif_neg s,Ad (by rw[AdO,AdV,IK,AdV];grind)];grind
   .have x:¬((2*c+1+1:D):K)<(g:K):=by omega
    let⟨k,_,H⟩:=E (2*c+1) q (by omega) (by omega) (by omega)
    refine⟨k,?_,?_⟩;.rw[MO.2.1];simp only[QY,MO.2.2.1, *]
    .rw[siftDown,dif_neg s,Ad (by grind)];grind
def f0{f:C WE}{g:G}{e:F}{c:Bg WE}(j:SI f i e g c){d:D}(m:d+a<=c.z)(o:c.z<100000000)(n:b<100000000):∃h,W9 (pos 250) [e,.n b,.n a,.n d,.f (pos 85) []] g=A (.AB [],h)/\SI f i e h (siftDown BL a d b c):=by
 let⟨l,p,k⟩:=jU a d (a-b) b Om j m o n
 refine⟨l,AZ B B ?_,k⟩;rw[MO.1];grind
def Zm(b:a<1000000000):A6 .sub [.n a,.n 1]=A (.n (a-1)):=FA (by omega) (by omega)
def jV(d c:D):∀(b:D)(a:Bg _),(heapBuild BL d c b a).z=a.z
 |0,a=>rfl
 |b+1,a=>by unfold heapBuild;rw[jV _ _ b,VP _ _ _ b a (CK _)]
def dU{h:C _}{l:G}{f:F}(d c:D):∀(a:D){e:G}{b:Bg _},SI h l f e b->c+d<=b.z->b.z<100000000->a<100000000->∃j,jj W9 212 5 [.n (a-1),.n d,f,.n 0,.n c,.f (pos 85) []] e=jj W9 212 4 [.n d,f,.n 0,.n c,.f (pos 85) []] j/\SI h l f j (heapBuild BL d c a b)
 |0,e,b,g,m,n,s=>by
  have i:¬0<=((0:D):K)-1:=by omega
  refine⟨e,?_,g⟩;rw[Nn.2.2.1];simp only[↓Q,↓QT,AdM,i]
 |a+1,e,b,g,m,n,s=>by
  have q:(a+1:D)-1=(a:K):=by omega
  rw[q];have i:0<=(a:K):=by omega
  let⟨t,_,o⟩:=f0 g (b:=a) m n (by omega)
  have u:=VP _ c (d-a) a b (CK _);let⟨r,_,p⟩:=dU d c a o (by grind) (by grind) (by omega)
  refine⟨r,?_,p⟩;rw[Nn.2.2.1];simp only[QY,Nn.2.2.2.1,Nn.2.2.2.2.1,H (Zm (a:=a) (by omega)), *]
def iU{l:C WE}{o:G}{g:F}(d:D):∀(c:D){f:G}{e:Bg WE},SI l o g f e->d+c<=e.z->d<e.z->e.z<100000000->∃n,jj W9 212 1 [g,.n 0,.n d,.f (pos 85) [],.n (c-1)] f=A (.AB [],n)/\SI l o g n (heapPop BL d c e)
 |0,f,e,h,y,p,z=>by
  have m:¬0<=((0:D):K)-1:=by omega
  refine⟨f,?_,h⟩;rw[Nn.2.2.2.2.2.1];simp only[↓Q,↓QT,AdM,m]
 |c+1,f,e,h,y,p,z=>by
  have u:(c+1:D)-1=(c:K):=by omega
  rw[u];have m:0<=(c:K):=by omega
  have S:=Mx (a:=d) (b:=c) (by omega);let⟨T,v,I,J,M,N,P,R,r⟩:=h.KM (d:=d) (c:=d+c) p (by omega)
  let⟨w,q,s⟩:=f0 r (b:=0) (a:=c) (d:=d) (by rw[size_swp];omega) (by rw[size_swp];grind) (by omega)
  have q:W9 (pos 250) [g,.n 0,.n (c:K),.n (d:K),.f (pos 85) []] v=A (.AB [],w):=q;have E:=VP c d (c-0) 0 (swp e d (d+c)) Om;rw[size_swp]at E;let⟨x,_,t⟩:=iU d c s (by grind) (by grind) (by grind)
  refine⟨x,?_,t⟩;rw[Nn.2.2.2.2.2.1];simp only[QY,Nn.2.2.2.2.2.2.1,Nn.2.2.2.2.2.2.2,H (Zm (a:=c) (by omega)), *]
def pX{g:C _}{j h:G}{e:Bg _}(l:SI g j f h e){d:D}(r:c<d)(s:d<=e.z)(p:e.z<100000000):∃i,W9 (pos 212) [f,.n c,.n d,.f (pos 85) []] h=A (.AB [],i)/\SI g j f i (heapSort BL e c d):=by
 have t:=Mu (a:=d) (b:=c) (by omega) (by omega);have u:=Zm (a:=d-c) (by omega);have v:A6 .quo [.n ((d-c:D)-1),.n 2]=A (.n ((((d-c-1)/2+1:D))-1)):=by have:=VC (a:=d-c-1) (b:=2) (by omega) (by omega);grind
 let⟨q,_,m⟩:=dU (d-c) c ((d-c-1)/2+1) l (by omega) p (by omega)
 have w:=jV (d-c) c ((d-c-1)/2+1) e;let⟨o,_,n⟩:=iU c (d-c) m (by grind) (by grind) (by grind)
 refine⟨o,AZ B B ?_,n⟩;rw[Nn.1];simp only[QY,Nn.2.1, *]
def ju{g:C _}{m:G}{f:F}:∀(d a b:D){e:G}{c:Bg _},b-a<=d->SI g m f e c->b<c.z->a<100000000->c.z<100000000->∃l,jj W9 215 1 [f,.n a,.n b] e=A (.AB [],l)/\SI g m f l (reverseLoop a b c)
 |d,a,b,e,c,y,n,q,x,z=>by
  by_cases h:a<b
  .cases d with
   |zero=>omega
   |succ d=>
   have k:a<(b:K):=by omega
   let⟨w,_,_,_,s,t,u,v,o⟩:=n.KM (d:=a) (c:=b) (by omega) q
   let⟨p,E,r⟩:=ju d (a+1) (b-1) (by omega) o (by rw[size_swp];omega) (by omega) (by rw[size_swp];grind)
   refine⟨p,?_,?_⟩
   .rw[Xt.2.1];simp only[QY,Xt.2.2,H (Bh (a:=a) (by omega)),H (JU (a:=b) (by omega) (by omega)), *]
   .rw[reverseLoop,Af h];grind
  .have k:¬a<(b:K):=by omega
   refine⟨e,?_,?_⟩;.rw[Xt.2.1];simp only[↓Q,↓QT,AdM,k]
   .rw[reverseLoop,Ad h];grind
def p0{e:C _}{h f:G}{c:Bg WE}(i:SI e h d f c)(o:b<a)(p:a<=c.z)(m:c.z<100000000):∃g,W9 (pos 215) [d,.n b,.n a,.f (pos 85) []] f=A (.AB [],g)/\SI e h d g (reverseRange c b a):=by
 let⟨l,n,k⟩:=ju (a-1-b) b (a-1) Om i (by omega) (by omega) m
 refine⟨l,AZ B B ?_,k⟩;rw[Xt.1];simp only[↓H (JU (a:=a) (by omega) (by omega)),n]
def jJ{o:C WE}{r:G}{l:F}(n m:F)(b:D):∀(e a:D){k:G}{c:Bg WE},b-a<=e->SI o r l k c->1<=a->a<=b->b<=c.z->c.z<100000000->∃q,jj W9 216 16 [n,m,.n a,.n b,.f (pos 85) [],l] k=jj W9 216 15 [n,m,.n (scanSorted BL c b a),.n b,.f (pos 85) [],l] q/\SI o r l q c/\a<=scanSorted BL c b a/\scanSorted BL c b a<=b
 |e,a,k,c,N,f,J,M,v,w=>by
  by_cases y:a<b
  .cases e with
   |zero=>omega
   |succ e=>
   have g:a<(b:K):=by omega
   let⟨P,V⟩:=f.rd (a:=a) (by omega)
   let⟨R,W⟩:=f.rd (a:=a-1) (by omega)
   let⟨t,S,p⟩:=f.Mc (k:=a) (l:=a-1) (by omega) (by omega)
   have z:=JU (a:=a) (by omega) (by omega)
   have I:DE [.b L]=A (.b Aa):=B
   have E:DE [.b Aa]=A (.b L):=B
   by_cases h:D6 c[a]!.2 c[a-1]!.2<0
   .have d:scanSorted BL c b a=a:=by
     rw[scanSorted,Ad]
     rw[AdO,IK,A0 h]
     grind
    refine⟨t,?_,p,by grind,by grind⟩
    rw[d,Ea.2.2.2.2.2.2.1]
    simp only[Q,QT,g,Yc,h,ZR, *]
   .have d:scanSorted BL c b a=scanSorted BL c b (a+1):=by
     conv=>lhs;rw[scanSorted]
     rw[Af]
     rw[AdO,AdV,IK,A2 h]
     grind
    let⟨u,x,s,T,U⟩:=jJ n m b e (a+1) (by omega) p (by omega) (by omega) v w
    refine⟨u,?_,s,by grind,by grind⟩
    rw[d,Ea.2.2.2.2.2.2.1]
    simp only[Q,QT,AdM,g,Yc,h,Ea.2.2.2.2.2.2.2.1,H (Bh (a:=a) (by omega)),x,ZR, *]
  .have g:¬a<(b:K):=by omega
   have d:scanSorted BL c b a=a:=by rw[scanSorted,Ad];grind
   refine⟨k,?_,f,by grind,by grind⟩;rw[d,Ea.2.2.2.2.2.2.1];simp only[↓Q,↓QT,AdM,g]
def jW:∀(b:D)(a:Bg _),(shiftDown BL b a).z=a.z
 |0,a=>rfl
 |b+1,a=>by
  unfold shiftDown;split;.rfl
  .rw[jW b,size_swp]
def jX(c:D):∀(d b:D)(a:Bg _),c-b<=d->(shiftUp BL c b a).z=a.z
 |0,b,a,e=>by rw[shiftUp,Ad (by omega)]
 |d+1,b,a,e=>by
  rw[shiftUp];split
  .split;.rfl
   .rw[jX c d _ _ (by omega),size_swp]
  omega
def ev{o:C WE}{q:G}{h:F}(m k n l:F):∀(a:D){d:G}{b:Bg WE},SI o q h d b->a<b.z->b.z<100000000->∃p,jj W9 216 9 [.n a,m,k,n,l,.f (pos 85) [],h] d=jj W9 216 8 [m,k,n,l,.f (pos 85) [],h] p/\SI o q h p (shiftDown BL a b)
 |0,d,b,c,g,v=>by
  have e:¬1<=((0:D):K):=by omega
  refine⟨d,?_,c⟩;rw[Ea.2.2.2.2.2.2.2.2.2.2.2.1];simp only[↓Q,↓QT,AdM,e]
 |a+1,d,b,c,g,v=>by
  have e:1<=((a+1:D):K):=by omega
  let⟨J,N⟩:=c.rd g
  let⟨M,P⟩:=c.rd (a:=a) (by omega)
  let⟨t,w,r⟩:=c.Mc g (l:=a) (by omega)
  rw[Kv]at w;have z:=Zk (a:=a) (by omega);have H:DE [.b L]=A (.b Aa):=B;have E:DE [.b Aa]=A (.b L):=B;by_cases f:D6 b[a+1]!.2 b[a]!.2<0
  .let⟨I,_,_,_,_,_,_,_,s⟩:=r.KM g (c:=a) (by omega)
   let⟨u,x,y⟩:=ev m k n l a s (by rw[size_swp];omega) (by rw[size_swp];grind)
   refine⟨u,?_,?_⟩;.rw[Ea.2.2.2.2.2.2.2.2.2.2.2.1];simp only[QY,Kv,e,Ea.2.2.2.2.2.2.2.2.2.2.2.2.1,f,Ea.2.2.2.2.2.2.2.2.2.2.2.2.2.2.1,Ea.2.2.2.2.2.2.2.2.2.2.2.2.2.1,x, *]
   .have:shiftDown BL (a+1) b=shiftDown BL a (swp b (a+1) a):=by
     show(if _ then _ else _)=_
     rw[IK,A0 f,Ad (by grind)]
    grind
  .refine⟨t,?_,?_⟩;.rw[Ea.2.2.2.2.2.2.2.2.2.2.2.1];simp only[QY,Kv,e,Ea.2.2.2.2.2.2.2.2.2.2.2.2.1,f, *]
   .have:shiftDown BL (a+1) b=b:=by
     show(if _ then _ else _)=_
     rw[IK,A2 f,Af (by grind)]
    grind
def ku{p:C WE}{r:G}{h:F}(m k n:F)(b:D):∀(d a:D){g:G}{c:Bg WE},b-a<=d->SI p r h g c->1<=a->b<=c.z->c.z<100000000->∃q,jj W9 216 4 [.n a,m,k,n,.n b,.f (pos 85) [],h] g=jj W9 216 3 [m,k,n,.n b,.f (pos 85) [],h] q/\SI p r h q (shiftUp BL b a c)
 |d,a,g,c,P,l,N,M,R=>by
  by_cases o:a<b
  .cases d with
   |zero=>omega
   |succ d=>
   have e:a<(b:K):=by omega
   let⟨S,U⟩:=l.rd (a:=a) (by omega)
   let⟨T,V⟩:=l.rd (a:=a-1) (by omega)
   let⟨u,w,s⟩:=l.Mc (k:=a) (l:=a-1) (by omega) (by omega)
   rw[Kv]at w
   have z:=JU (a:=a) (by omega) (by omega)
   have I:DE [.b L]=A (.b Aa):=B
   have E:DE [.b Aa]=A (.b L):=B
   by_cases f:D6 c[a]!.2 c[a-1]!.2<0
   .let⟨J,_,_,_,_,_,_,_,t⟩:=s.KM (d:=a) (c:=a-1) (by omega) (by omega)
    let⟨v,x,y⟩:=ku m k n b d (a+1) (by omega) t (by omega) (by rw[size_swp];grind) (by rw[size_swp];grind)
    refine⟨v,?_,?_⟩;.rw[Ea.2.2.2.2.2.2.2.2.2.2.2.2.2.2.2.1];simp only[QY,Kv,e,Ea.2.2.2.2.2.2.2.2.2.2.2.2.2.2.2.2.1,f,Ea.2.2.2.2.2.2.2.2.2.2.2.2.2.2.2.2.2.2,Ea.2.2.2.2.2.2.2.2.2.2.2.2.2.2.2.2.2.1,H (Bh (a:=a) (by omega)),x, *]
    .rw[shiftUp,Af o,IK,A0 f,Ad (by grind)];grind
   .refine⟨u,?_,?_⟩;.rw[Ea.2.2.2.2.2.2.2.2.2.2.2.2.2.2.2.1];simp only[QY,Kv,e,Ea.2.2.2.2.2.2.2.2.2.2.2.2.2.2.2.2.1,f, *]
    .rw[shiftUp,Af o,IK,A2 f,Af (by grind)];grind
  .have e:¬a<(b:K):=by omega
   refine⟨g,?_,?_⟩;.rw[Ea.2.2.2.2.2.2.2.2.2.2.2.2.2.2.2.1];simp only[↓Q,↓QT,AdM,e]
   .rw[shiftUp,Ad o];grind
def bO{q:C _}{s:G}{m:F}(e c:D):∀(l f g:D){o:G}{h:Bg _},l+f=5->SI q s m o h->e<g->g<=c->c<=h.z->h.z<100000000->∃p,jj W9 216 2 [.n (e:K),.n (g:K),.n (c:K),.f (pos 85) [],m,.n (f:K)] o=A (.b (partialIns BL e c l g h).2,p)/\SI q s m p (partialIns BL e c l g h).1
 |0,f,g,o,h,xb,v,xa,T,S,U=>by
  have y:¬(f:K)<5:=by omega
  refine⟨o,?_,v⟩;rw[Ea.2.2.1];simp only[↓Q,↓QT,AdM,y,Ea.2.1];rfl
 |l+1,f,g,o,h,xb,v,xa,T,S,U=>by
  have y:(f:K)<5:=by omega
  let⟨R,xc,w,xp,xq⟩:=jJ (.n (f:K)) (.n (e:K)) c (c-g) g Om v (by omega) T S U
  unfold partialIns;generalize scanSorted BL h c g=d at*;simp only[];by_cases I:d=c
  .have J:(d:K)=(c:K):=by omega
   rw[Af I];refine⟨R,?_,w⟩;rw[Ea.2.2.1];simp only[↓Q,↓QT,y,Ea.2.2.2.1,xc,Ea.2.2.2.2.2.1,J]
  rw[Ad I];have J:¬(d:K)=(c:K):=by omega
  have xr:=Mu (a:=c) (b:=e) (by omega) (by omega);by_cases M:c-e<50
  .have X:((c-e:D):K)<50:=by omega
   rw[Af M];refine⟨R,?_,w⟩;rw[Ea.2.2.1];simp only[QY,Ea.2.2.2.1,Ea.2.2.2.2.2.1,Ea.2.2.2.2.2.2.2.2.1, *]
  rw[Ad M];have X:¬((c-e:D):K)<50:=by omega
  let⟨xl,xm,xf,xg,xh,xi,xj,xk,E⟩:=w.KM (d:=d) (c:=d-1) (by omega) (by omega)
  have xe:=JU (a:=d) (by omega) (by omega);have xs:=Mu (a:=d) (b:=e) (by omega) (by omega);have xt:=Mu (a:=c) (b:=d) (by omega) (by omega);have W:∀{k:Bg WE}{t:G},SI q s m t k->k.z=h.z->∃p,jj W9 216 8 [.n (f:K),.n (e:K),.n (d:K),.n (c:K),.f (pos 85) [],m] t=A (.b (partialIns BL e c l d (if c-d>=2 then shiftUp BL c (d+1) k else k)).2,p)/\SI q s m p (partialIns BL e c l d (if c-d>=2 then shiftUp BL c (d+1) k else k)).1:=by
   intro k t r xn;by_cases P:c-d>=2
   .have Z:(2:K)<=((c-d:D):K):=by omega
    rw[Af P];let⟨u,V,n⟩:=ku (.n (f:K)) (.n (e:K)) (.n (d:K)) c (c-(d+1)) (d+1) Om r (by omega) (by omega) (by omega)
    have xu:=jX c (c-(d+1)) (d+1) k Om;let⟨z,xd,x⟩:=bO e c l (f+1) d (by omega) n (by omega) (by omega) (by omega) (by omega)
    refine⟨z,?_,x⟩;rw[Ea.2.2.2.2.2.2.2.2.2.2.1];simp only[QY,H (Bh (a:=d) (by omega)),Ea.2.2.2.2.1,H (Bh (a:=f) (by omega)), *]
   .have Z:¬(2:K)<=((c-d:D):K):=by omega
    rw[Ad P];let⟨z,xd,x⟩:=bO e c l (f+1) d (by omega) r (by omega) (by omega) (by omega) (by omega)
    refine⟨z,?_,x⟩;rw[Ea.2.2.2.2.2.2.2.2.2.2.1];simp only[QY,Ea.2.2.2.2.1,H (Bh (a:=f) (by omega)), *]
  by_cases N:d-e>=2
  .have Y:(2:K)<=((d-e:D):K):=by omega
   rw[Af N];let⟨t,xo,r⟩:=ev (.n (f:K)) (.n (e:K)) (.n (d:K)) (.n (c:K)) (d-1) E (by rw[size_swp];omega) (by rw[size_swp];grind)
   let⟨u,V,n⟩:=W r (by rw[jW,size_swp])
   refine⟨u,?_,n⟩;rw[Ea.2.2.1];simp only[QY,Ea.2.2.2.1,Ea.2.2.2.2.2.1,Ea.2.2.2.2.2.2.2.2.1,Ea.2.2.2.2.2.2.2.2.2.1, *]
  .have Y:¬(2:K)<=((d-e:D):K):=by omega
   rw[Ad N];let⟨u,V,n⟩:=W E (by rw[size_swp])
   refine⟨u,?_,n⟩;rw[Ea.2.2.1];simp only[QY,Ea.2.2.2.1,Ea.2.2.2.2.2.1,Ea.2.2.2.2.2.2.2.2.1,Ea.2.2.2.2.2.2.2.2.2.1, *]
def p1{g:C _}{j:G}{c:Bg _}(l:SI g j d e c)(p:a<b)(n:b<=c.z)(o:c.z<100000000):∃h,W9 (pos 216) [d,.n a,.n b,.f (pos 85) []] e=A (.b (partialInsertionSort BL c a b).2,h)/\SI g j d h (partialInsertionSort BL c a b).1:=by
 let⟨k,f,m⟩:=bO a b 5 0 (a+1) B l (by omega) (by omega) n o
 have f:jj W9 216 2 [.n a,.n (a+1:D),.n b,.f (pos 85) [],d,.n 0] e=A (.b (partialInsertionSort BL c a b).2,k):=f;refine⟨k,AZ B B ?_,m⟩;rw[Ea.1];simp only[↓H (Bh (a:=a) (by omega)),f]
def RE(p f:Ah)(n o e m d g:F)(c:G)(k l:G->R):R:=
 (A6 .leq [n,o]).b λa=>
 (Aj (A1 L a) (A m) (A AC)).b λq=>
 (Aj (A1 L a) (A g) (A AC)).b λt=>
 (Aj (A1 L a) (A (Aj f d e)) (A AC)).b λu=>
 (Aj (A1 L a) (AR 2 [t,u]) (A AC)).b λi=>
 (Aj (A1 L a) (A9 2 c [i]) (A AC)).b λj=>
 (Aj (A1 L a) (A g) (A AC)).b λv=>
 (Aj (A1 L a) (A (Aj f e d)) (A AC)).b λw=>
 (Aj (A1 L a) (AR 2 [v,w]) (A AC)).b λx=>
 (Aj (A1 L a) (A9 2 c [x]) (A AC)).b λy=>
 (Aj (A1 L a) ((C8 W9 q [j,y] c).b λb=>Aj (C0 8191 b.2 (C2 (A1 L a) ⟨8,.ld 2,[i],j⟩ [])) (A b) O) (A (AC,c))).b λb=>
 (Aj (A1 L a) (A6 .lss [b.1,.n 0]) (A AC)).b λh=>
 (Aj p (Aj (A1 L a) (DE [h]) (A AC)) (A h)).b λr=>
 (DY [a,r,.b Aa]).b λs=>Da (k b.2) (l b.2) s
def VL(d c:Ah)(a b:WE):Ah:=Aj d (!Aj c (BL b a) (BL a b)) (Aj c (BL b a) (BL a b))
def cn{e k:Ah}{j i g l:F}{d:G}{f c:G->R}(m:¬a<=b):RE e k (.n a) (.n b) j i g l d f c=c d:=by
 have h:¬a<=(b:K):=by omega
 unfold RE;cases e<;>simp only[↓Q,↓QT,AdM,h,_root_.cond_true,_root_.cond_false]
def jI{q:C WE}{t:G}{p:F}{a:Bg WE}(g:SI q t p s a)(h o:Ah){m n d:D}(v:m<=n)(l:d<a.z)(k:c<a.z):∃b,SI q t p b a/\∀e f,RE h o (.n m) (.n n) (.n d) (.f (pos 85) []) (.n c) p s e f=Aj (VL h o a[d]! a[c]!) (e b) (f b):=by
 have r:m<=(n:K):=by omega
 let⟨y,E⟩:=g.rd l
 let⟨z,H⟩:=g.rd k
 have x:DE [.b L]=A (.b Aa):=B
 have w:DE [.b Aa]=A (.b L):=B
 cases o with
 |false=>
  let⟨b,u,i⟩:=g.Mc l k
  refine⟨b,i,λe f=> ?_⟩;unfold RE VL;by_cases j:D6 a[d]!.2 a[c]!.2<0<;>cases h<;>simp only[Q,QT,AdM,r,_root_.cond_true,_root_.cond_false,Yd,IK,j,Ad4,Ael,Ad8,Aet,ZR, *]
 |true=>
  let⟨b,u,i⟩:=g.Mc k l
  refine⟨b,i,λe f=> ?_⟩;unfold RE VL;by_cases j:D6 a[c]!.2 a[d]!.2<0<;>cases h<;>simp only[Q,QT,AdM,r,_root_.cond_true,_root_.cond_false,Yd,IK,j,Ad4,Ael,Ad8,Aet,ZR, *]
def up{r:C WE}{y:G}{e:F}{h p I J:D}{o q:Ah}(k:∀a b g d e c,jj W9 h p [a,b,g,d,e] c=RE o q a b a g d e c (λc=>jj W9 h I [a,b,g,d,e] c) λc=>jj W9 h J [a,b,g,d,e] c)(w:∀a b g d e c,jj W9 h I [a,b,g,d,e] c=(A6 .add [a,.n 1]).b λT=>jj W9 h p [T,b,g,d,e] c){f:Bg WE}(d b:D)(l:WE->Ah)(n:∀M,l M=VL o q M f[d]!)(z:d<f.z)(R:b<f.z)(S:f.z<100000000):∀(j a:D){c:G},b+1-a<=j->SI r y e c f->a<100000000->∃x,jj W9 h p [.n a,.n b,.f (pos 85) [],.n d,e] c=jj W9 h J [.n (scanUp l f b a),.n b,.f (pos 85) [],.n d,e] x/\SI r y e x f
 |j,a,c,V,s,U=>by
  by_cases u:a<=b
  .cases j with
   |zero=>omega
   |succ j=>
   let⟨P,t,E⟩:=jI s o q u (d:=a) (by omega) z
   cases v:l f[a]!with
   |true=>
    let⟨Q,W,N⟩:=up k w d b l n z R S j (a+1) (by omega) t (by omega)
    refine⟨Q,?_,N⟩;rw[scanUp,Af (by grind),k,E,<-n,v,_root_.cond_true,w,H (Bh (a:=a) (by omega))];grind
   |false=>refine⟨P,?_,t⟩;rw[scanUp,Ad (by grind),k,E,<-n,v,_root_.cond_false]
  .exact⟨c,by rw[scanUp,Ad (by grind),k,cn u],s⟩
def Wz{r:C WE}{x:G}{f:F}{h p I J:D}{o q:Ah}(k:∀b a g d f c,jj W9 h p [b,a,g,d,f] c=RE o q b a a g d f c (λc=>jj W9 h I [a,b,g,d,f] c) λc=>jj W9 h J [b,a,g,d,f] c)(v:∀a b g d f c,jj W9 h I [a,b,g,d,f] c=(A6 .sub [a,.n 1]).b λT=>jj W9 h p [b,T,g,d,f] c){e:Bg WE}(d b:D)(i:WE->Ah)(n:∀M,i M=VL o q M e[d]!)(R:1<=b)(y:d<e.z)(S:e.z<100000000):∀(a:D){c:G},SI r x f c e->a<e.z->∃w,jj W9 h p [.n b,.n a,.f (pos 85) [],.n d,f] c=jj W9 h J [.n b,.n (scanDown i e b a),.f (pos 85) [],.n d,f] w/\SI r x f w e
 |0,c,l,z=>⟨c,by rw[k,cn (by omega)];rfl,l⟩
 |a+1,c,l,z=>by
  by_cases t:b<=a+1
  .let⟨P,s,E⟩:=jI l o q t (d:=a+1) z y
   cases u:i e[a+1]!with
   |true=>
    let⟨Q,U,N⟩:=Wz k v d b i n R y S a s (by omega)
    refine⟨Q,?_,N⟩;rw[show scanDown i e b (a+1)=scanDown i e b a from Af (by grind),k,E,<-n,u,_root_.cond_true,v,H (Zk (a:=a) (by omega))];grind
   |false=>refine⟨P,?_,s⟩;rw[show scanDown i e b (a+1)=a+1 from Ad (by grind),k,E,<-n,u,_root_.cond_false]
  .exact⟨c,by rw[show scanDown _ e b (a+1)=a+1 from Ad (by grind),k,cn t],l⟩
def hK{o:C WE}{s:G}{n:F}(b:D):∀(h e c:D){l:G}{a:Bg WE},c+1-e<=h->SI o s n l a->1<=e->b<a.z->c<a.z->e<90000000->a.z<90000000->∃r,jj W9 218 2 [.f (pos 85) [],.n b,n,.n e,.n c] l=A (.AB [.n (partLoop BL b e c a).1,.b Aa],r)/\SI o s n r (swp (partLoop BL b e c a).2 (partLoop BL b e c a).1 b)
 |h,e,c,l,a,Z,w,V,m,t,X,xa=>by
  let⟨T,u,x⟩:=up (o:=Aa) (q:=Aa) HN.2.2.2.2.2.2.2.2.2.2.2.1 HN.2.2.2.2.2.2.2.2.2.2.2.2.1 b c (λd=>BL d a[b]!) (λ_=>B) m t (by omega) (c+1-e) e (CK _) w (by omega)
  have xc:=scanUp_ge (λd=>BL d a[b]!) a c e;have xe:=(scanUp_spec (λd=>BL d a[b]!) a c _ e B).2.1;let⟨U,v,p⟩:=Wz (o:=L) (q:=Aa) HN.2.2.2.2.2.2.2.2.2.2.2.2.2.2.1 HN.2.2.2.2.2.2.2.2.2.2.2.2.2.2.2.1 b (scanUp (λd=>BL d a[b]!) a c e) (λd=> !BL d a[b]!) (λ_=>B) (by omega) m (by omega) c x t
  have xd:=scanDown_le (λd=> !BL d a[b]!) a (scanUp (λd=>BL d a[b]!) a c e) c;rw[partLoop_eq];generalize W:scanUp (λd=>BL d a[b]!) a c e=f at*;generalize Y:scanDown (λd=> !BL d a[b]!) a f c=g at*;by_cases q:f>g
  .have z:g<(f:K):=by omega
   rw[Af q];let⟨M,N,Q,R,S,E,I,J,k⟩:=p.KM (d:=g) (c:=b) (by omega) m
   refine⟨N,?_,k⟩;rw[HN.2.2.2.2.2.2.2.2.2.1,u,HN.2.2.2.2.2.2.2.2.2.2.1,v,HN.2.2.2.2.2.2.2.2.2.2.2.2.2.1];simp only[QY,HN.2.2.2.2.2.2.2.2.1, *]
  .cases h with
   |zero=>omega
   |succ h=>
   have z:¬g<(f:K):=by omega
   rw[Ad q]
   let⟨M,_,_,_,_,E,I,J,k⟩:=p.KM (d:=f) (c:=g) (by omega) (by omega)
   let⟨P,xb,y⟩:=hK b h (f+1) (g-1) (by omega) k (by omega) (by rw[size_swp];grind) (by rw[size_swp];omega) (by omega) (by rw[size_swp];grind)
   refine⟨P,?_,y⟩
   rw[HN.2.2.2.2.2.2.2.2.2.1,u,HN.2.2.2.2.2.2.2.2.2.2.1,v,HN.2.2.2.2.2.2.2.2.2.2.2.2.2.1]
   simp only[QY,HN.2.2.2.2.2.2.2.2.2.2.2.2.2.2.2.2,H (Bh (a:=f) (by omega)),H (JU (a:=g) (by omega) (by omega)), *]
def p3{o:C WE}{n:G}{k:F}{h:Bg WE}(u:SI o s k n h){g:D}(xi:a<=g)(xk:g<b)(xh:a+1<b)(xj:b<=h.z)(xl:h.z<80000000):∃r,W9 (pos 218) [k,.n a,.n b,.n g,.f (pos 85) []] n=A (.AB [.n (partition BL h a b g).1,.b (partition BL h a b g).2.1],r)/\SI o s k r (partition BL h a b g).2.2:=by
 let⟨xd,xe,z,E,I,J,M,N,v⟩:=u.KM (d:=a) (c:=g) (by omega) (by omega)
 unfold partition;simp only[];generalize X:swp h a g=d at*;have xq:d.z=h.z:=by rw[<-X,size_swp]
 let⟨xf,Y,w⟩:=up (o:=Aa) (q:=Aa) HN.2.2.1 HN.2.2.2.1 a (b-1) (λc=>BL c d[a]!) (λ_=>B) (by omega) (by omega) (by omega) (b-1+1-(a+1)) (a+1) (CK _) v (by omega)
 have xn:=scanUp_ge (λc=>BL c d[a]!) d (b-1) (a+1);have xp:=(scanUp_spec (λc=>BL c d[a]!) d (b-1) _ (a+1) B).2.1;let⟨T,Z,p⟩:=Wz (o:=L) (q:=Aa) HN.2.2.2.2.2.1 HN.2.2.2.2.2.2.1 a (scanUp (λc=>BL c d[a]!) d (b-1) (a+1)) (λc=> !BL c d[a]!) (λ_=>B) (by omega) (by omega) (by omega) (b-1) w (by omega)
 have xo:=scanDown_le (λc=> !BL c d[a]!) d (scanUp (λc=>BL c d[a]!) d (b-1) (a+1)) (b-1);generalize scanUp (λc=>BL c _) _ _ _=e at*;generalize scanDown (λc=> !BL c _) d e (b-1)=f at*;have t:∀{m:R},jj W9 218 11 [.n e,.n f,.f (pos 85) [],.n a,k] T=m->xx W9 218 [k,.n a,.n b,.n g,.f (pos 85) []] n=m:=λ{m} xg=>by rw[HN.1];simp only[QY,z,E,I,J,M,N,Bh (a:=a) (by omega),JU (a:=b) (by omega) (by omega),Y,HN.2.1,Z];grind
 by_cases q:e>f
 .have y:f<(e:K):=by omega
  rw[Af q];let⟨U,V,xa,xb,xc,P,Q,S,l⟩:=p.KM (d:=f) (c:=a) (by omega) (by omega)
  refine⟨V,AZ B B (t ?_),l⟩;rw[HN.2.2.2.2.1];simp only[QY, *]
 .have y:¬f<(e:K):=by omega
  rw[Ad q];let⟨U,_,_,_,_,P,Q,S,l⟩:=p.KM (d:=e) (c:=f) (by omega) (by omega)
  let⟨W,xm,x⟩:=hK a (f-1+1-(e+1)) (e+1) (f-1) Om l (by omega) (by rw[size_swp];omega) (by rw[size_swp];omega) (by omega) (by rw[size_swp];omega)
  refine⟨W,AZ B B (t ?_),x⟩;rw[HN.2.2.2.2.1];simp only[QY,HN.2.2.2.2.2.2.2.1,H (Bh (a:=e) (by omega)),H (JU (a:=f) (by omega) (by omega)), *]
def hJ{m:C WE}{r:G}{l:F}(c:D):∀(h e d:D){k:G}{a:Bg WE},d+1-e<=h->SI m r l k a->1<=e->c<a.z->d<a.z->e<90000000->a.z<90000000->∃q,jj W9 217 2 [.f (pos 85) [],.n c,l,.n e,.n d] k=A (.n (partEqLoop BL c e d a).1,q)/\SI m r l q (partEqLoop BL c e d a).2
 |h,e,d,k,a,W,w,S,s,t,U,X=>by
  let⟨P,u,x⟩:=up (o:=L) (q:=L) LH.2.2.2.2.1 LH.2.2.2.2.2.1 c d (λb=> !BL a[c]! b) (λ_=>B) s t (by omega) (d+1-e) e (CK _) w (by omega)
  have Z:=scanUp_ge (λb=> !BL a[c]! b) a d e;have xb:=(scanUp_spec (λb=> !BL a[c]! b) a d _ e B).2.1;let⟨E,v,n⟩:=Wz (o:=Aa) (q:=L) LH.2.2.2.2.2.2.2.1 LH.2.2.2.2.2.2.2.2.1 c (scanUp (λb=> !BL a[c]! b) a d e) (λb=>BL a[c]! b) (λ_=>B) (by omega) s (by omega) d x t
  have xa:=scanDown_le (λb=>BL a[c]! b) a (scanUp (λb=> !BL a[c]! b) a d e) d;rw[partEqLoop_eq];generalize T:scanUp (λb=> !BL a[c]! b) a d e=f at*;generalize V:scanDown (λb=>BL a[c]! b) a f d=g at*;by_cases o:f>g
  .have p:g<(f:K):=by omega
   rw[Af o];refine⟨E,?_,n⟩;rw[LH.2.2.1,u,LH.2.2.2.1,v,LH.2.2.2.2.2.2.1];simp only[↓Q,↓QT,p,LH.2.1]
  .cases h with
   |zero=>omega
   |succ h=>
   have p:¬g<(f:K):=by omega
   rw[Ad o]
   let⟨R,_,_,_,_,J,M,N,y⟩:=n.KM (d:=f) (c:=g) (by omega) (by omega)
   let⟨I,Y,z⟩:=hJ c h (f+1) (g-1) (by omega) y (by omega) (by rw[size_swp];grind) (by rw[size_swp];omega) (by omega) (by rw[size_swp];grind)
   refine⟨I,?_,z⟩
   rw[LH.2.2.1,u,LH.2.2.2.1,v,LH.2.2.2.2.2.2.1]
   simp only[QY,LH.2.2.2.2.2.2.2.2.2,H (Bh (a:=f) (by omega)),H (JU (a:=g) (by omega) (by omega)), *]
def p2{f:C _}{k g:G}{e:F}{d:Bg _}(l:SI f k e g d)(q:a<=c)(s:c<b)(r:b<=d.z)(t:d.z<80000000):∃h,W9 (pos 217) [e,.n a,.n b,.n c,.f (pos 85) []] g=A (.n (partitionEqual BL d a b c).1,h)/\SI f k e h (partitionEqual BL d a b c).2:=by
 let⟨p,_,_,_,_,_,_,_,m⟩:=l.KM (d:=a) (c:=c) (by omega) (by omega)
 let⟨o,u,n⟩:=hJ a (b-1+1-(a+1)) (a+1) (b-1) Om m (by omega) (by rw[size_swp];omega) (by rw[size_swp];omega) (by omega) (by rw[size_swp];omega)
 refine⟨o,AZ B B ?_,n⟩;rw[LH.1];simp only[QY,H (Bh (a:=a) (by omega)),H (JU (a:=b) (by omega) (by omega)), *];rfl
