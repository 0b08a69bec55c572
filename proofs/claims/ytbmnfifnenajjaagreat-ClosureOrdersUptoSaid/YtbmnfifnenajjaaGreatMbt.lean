/- Part of the proof. -/
import Derived.Test.YtbmnfifnenajjaaGreatRows
import Derived.ProofKit
import Derived.Test.YtbmnfifnenajjaaGreatMbq
set_option linter.all false
noncomputable section
open Option renaming some->A,none->O,bind->Option.b
open _root_ renaming rfl->B,List->C,Nat->D,Int->K,if_neg->Ad,if_pos->Af,decide_eq_true->A0,absurd->BF
open Bool renaming true->L,false->Aa
open Decidable renaming decide->Ao
open List renaming length->List.l,take->List.t,drop->List.d
open Go.IntKind renaming i64->Go.IntKind.n
open Array renaming toList->Array.l,size->Array.z
open Eq renaming trans->Eq.t
open Or renaming inl->Or.i,inr->Or.j
open Int renaming toNat->Int.n
namespace Go.Proofs.YtbmnfifnenajjaaGreat
open Go.Fg
def Ah2{e:G}{k m n p:F}{o d:C A5}(z:Aw e k A5.c 2 o)(y:Aw e m A5.c 2 d)(H:d.l≠0){b:K}(t:(o.l:K)=b){a:C K}(J:a.l<1000000000)(u:∀c∈a,0<=c):jj W9 18 5 [k,m,Z Be a,n,p] e=jj W9 18 4 [k,m,.n (NA d.l a b),Z Be a,n,p] e:=by
 have h:=Cp z;have x:=Cp y;have r:=DF Be a;rw[t]at h;rw[Agk.2.2.2.2.2.2.2.2.1];by_cases f:b<a.l
 .let⟨c,g⟩:=Bb (b:=a) (a:=b.n) (by omega)
  have E:=u c (AdU g);have v:AR 1 [Z Be a,.n b]=A (.pi (Be c)):=by have:=rM g;rwa[show b.n=b by omega]at this
  have w:AM e [.pi (Be c)]=A (.n c):=B;have q:(d.l:K)≠0:=by omega
  have I:=Aim c q;have j:NA d.l a b=(c % d.l).n:=by unfold NA;rw[Af f,g];rfl
  have s:A6 .rem [.n c,.n d.l]=A (.n (NA d.l a b)):=by rw[WL .n _ q,Age E,j];congr 2;omega
  simp only[QY,h,r,f,v,w,x,s]
 .have j:NA d.l a b=0:=by unfold NA;rw[Ad f]
  rw[j];simp only[QY,h,r,f];rfl
open Classical in
theorem Bj.uv {l:EC} {b:G} {g:Ai} {i:C (C (C K))} {h:K} {f:T->Prop} (q:Bj l b g i h f) {d:G} {k:T->Prop} (t:∀a,Lv b a->¬f a->d.M a=b.M a/\Lv d a) (n:∀a,k a->Lv d a/\(f a\/¬Lv b a)):Bj l d g i h k:=by
 let⟨p,m,r,j⟩:=q
 have s:BZ (λa=>if Lv b a then p a else .C5) b _ _ g i h m:=r.TG λa c=>⟨B,c,Af c⟩;refine⟨_,m,s.Ar λa c v=>t a c λu=>v ?_,λa o=>⟨(n a o).1,?_⟩⟩;.rw[Af c];exact(j a u).2
 .show(if Lv b a then p a else .C5)=.C5;rcases(n a o).2 with e|e;.rw[Af (j a e).1];exact(j a e).2
  .rw[Ad e]
def AgJ{c:EC}{b:G}{j:Ai}{k:C (C (C K))}{d:K}{e:T->Prop}(h:Bj c b j k d e)(y:d≠0){a:T}(g:e a){v:C F}(m:b.M a=A (.I 7 v))(r s o q:F):jj W9 18 3 [r,s,o,q,.p c.x 0,.p a 0] b=A (.AB [.S o7,.sn,.n d],b.set a (.I 7 o7)):=by
 let⟨H,w,f,n⟩:=h
 have p:c.x≠a:=λi=>by have:=(n a g).2;rw[<-i,f.B3]at this;cases this
 have t:=f.M;have x:Cb o7 [] []=A (.S o7):=B;have I:=Gb m (a:=o7) B B;have E:(b.set a (.I 7 o7)).AL a 0 7=A o7:=BB (by rw[AN,Af B]);have u:(b.set a (.I 7 o7)).M c.x=_:=(show _=b.M c.x by rw[AN,Ad p]).t t;have z:Bv .Cq [.p c.x 7] (b.set a (.I 7 o7)) (.n d)=L:=GL (Ay u 7);rw[Agk.2.2.2.2.2.2.2.2.2.2.1];simp only[QY, *]
def AgD{g:EC}(N:BD g.l){xj:D}(xK:xj=400){xy:D}{l:C K}(xM:l.l<1000000000)(xL:∀c∈l,0<=c){o:T->Prop}{j:T}(n:o j){xl:C F}:∀{M:D}{r:G}{d:Ai}{Q:C (C (C K))}{m:F}{p:C A5}{s:Ai×C A5×K},G8 g.l d->(p.l:K)=d.AA->Bj g r d Q 0 (λc=>o c\/¬As m c)->CJ d Q->Aw r m A5.c 2 p->(∀c,o c->As m c)->r.M j=A (.I 7 xl)->LV g.l xj xy l M d p=A s->(s.2.2=0->∃xk U yd,jj W9 18 1 [Z Be l,.p g.x 0,.p j 0,m] r=jj W9 18 1 [Z Be l,.p g.x 0,.p j 0,xk] U/\Bj g U s.1 yd 0 (λc=>o c\/¬As xk c)/\Aw U xk A5.c 2 s.2.1/\(∀c,o c->As xk c)/\U.M j=A (.I 7 xl)/\(Br g.l s.1).l=0)/\(s.2.2≠0->∃U,jj W9 18 1 [Z Be l,.p g.x 0,.p j 0,m] r=A (.AB [.S o7,.sn,.n s.2.2],U))
 |0,_,_,_,_,_,_,_,_,_,_,_,_,_,k=>by cases k
 |M+1,r,d,Q,m,p,s,q,yj,xe,x2,xQ,xh,xN,k=>by
  have yS:=q.X.W.AA;have yT:=q.r0;have yU:=q.rf;have xJ:=cc (b:=⟨g.l,[],0,.h⟩) q.X.W.sh (bw N q.X);have xJ:(Br g.l d).l<1000000000:=xJ;unfold LV at k;by_cases xb:(Br g.l d).l=0
  .rw[Af xb]at k;cases k
   exact⟨λ_=>⟨m,r,Q,B,xe,xQ,xh,xN,xb⟩,λi=>BF B i⟩
  rw[Ad xb]at k;have xW:=xe;let⟨yW,yL,x8,yR⟩:=xW
  let⟨E,yg,yo,xd,xm,yf⟩:=qG N x8 q.X.W.sh
  have xc:=X2 xb l d.AA;have xv:=AdU xc;have yr:=Cp xd;have yb:¬((Br g.l d).l:K)=0:=by omega
  have xR:=xQ.ext xm;have x6:=Ah2 (n:=.p g.x 0) (p:=.p j 0) xR xd xb yj xM xL;generalize Ny (Br g.l d) l d.AA=yA at k xc xv;have xX:Bj g yg d Q 0 (λc=>(o c\/¬As m c)\/¬As E c):=(xe.V xm).sub λc h=>by
   rcases h with h|h;.exact .i h
   .exact .j ⟨λyq=>h (yf c yq),xd.Cz h⟩
  let⟨yx,x7,xA,yh⟩:=xX
  have yJ:=xA.M;have yc:=F2 (a:=d.round) (b:=1) (by omega) (by omega);let⟨V,yB,xB,x3⟩:=xA.Yj (d.round+1)
  let⟨xq,xr⟩:=x3.Fp (by grind) yh
  have yK:=xB.M;have xY:Bj g V ⟨d.Ac,d.Am,d.round+1,d.AA⟩ Q 0 (λc=>(o c\/¬As m c)\/¬As E c):=⟨yx,x7,xB,xq⟩;let⟨ya,xE⟩:=CD (f:=A5.c) (w:=2) (λ_=>B) xd xc
  have xO:=xE.ia;have xT:Aw V E A5.c 2 (Br g.l d):=xd.Ar λc h i=>⟨xr c (.j i),(xq c (.j i)).1⟩;have ys:Aw V m A5.c 2 p:=xR.Ar λc h i=>⟨xr c (.i (.j i)),(xq c (.i (.j i))).1⟩;have xU:∀{xI:G},Aw xI E A5.c 2 (Br g.l d)->xI.AL ya (NA (Br g.l d).l l d.AA*2) 2=A (A5.c yA):=λyu=>by
   let⟨yM,xC⟩:=CD (f:=A5.c) (w:=2) (λ_=>B) yu xc
   have xG:=xC.ia;rw[xE.ia]at xG;cases xG
   exact xC.AL (f:=A5.c) (λ_=>B) xc
  have yy:=xU xT;obtain⟨v,z,rfl,yk,ym⟩:=Ve xv;let⟨yD,yE⟩:=qH N (q.X.MZ q.X.W.AA) xY (x2.PA (H1.of B)) (e:=⟨d.Ac,d.Am,d.round+1,d.AA⟩) yk ym (n:=d.round+1) (by omega)
  have xu:V.M j=A (.I 7 xl):=(xr j (.i (.i n))).t ((xm.M (xe.C4 (.i n))).t xN);have yV:(p++[(⟨v,z⟩:A5)]).l=p.l+1:=by rw[AdY];rfl
  have xz:∀{u:G}{xs:K}{xn:R},W9 (pos 57) [.p g.x 0,.S (A5.c ⟨v,z⟩),.n (d.round+1)] V=A (.AB [],u)->u.Ap g.x 7=A (.n xs)->((A6 .eql [.n xs,.n 0]).b λyF=>Da ((W9 (pos 58) [.p g.x 0] u).b λc=>jj W9 18 3 [m,E,.n (NA (Br g.l d).l l d.AA),Z Be l,.p g.x 0,.p j 0] c.2) (jj W9 18 3 [m,E,.n (NA (Br g.l d).l l d.AA),Z Be l,.p g.x 0,.p j 0] u) yF)=xn->jj W9 18 1 [Z Be l,.p g.x 0,.p j 0,m] r=xn:=λ{u xs xn} W X yi=>by rw[Agk.2.2.2.2.2.2.2.1];simp only[QY,yo,yr,yb];rw[x6,Agk.2.2.2.2.2.2.2.2.2.1];simp only[QY,H (W8 g.x),yJ,yc,yB,xO,yy,yK,W,X];exact yi
  by_cases t:(F6 g.l ⟨d.Ac,d.Am,d.round+1,d.AA⟩ ⟨v,z⟩ (d.round+1)).2=0
  .rw[Ad (λM=>M t)]at k
   let⟨x9,yQ,x1⟩:=bG N q xv t
   let⟨u,ye,W,Y,x4,xf⟩:=yD t
   let⟨yG,_,_,X⟩:=Y.Hw
   cases xi:Ib g.l xj xy (F6 g.l ⟨d.Ac,d.Am,d.round+1,d.AA⟩ ⟨v,z⟩ (d.round+1)).1 with
   |none=>rw[xi]at k;cases k
   |some i=>
    rw[xi]at k;let⟨x0,yP⟩:=x1 xi
    have k:(if i.2≠0 then A (i.1,p++[(⟨v,z⟩:A5)],i.2)else LV g.l xj xy l M i.1 (p++[(⟨v,z⟩:A5)]))=A s:=k;let⟨yH,yI⟩:=gb N xK xi x9 Y x4
    by_cases P:i.2=0
    .rw[Ad (λM=>M P)]at k;let⟨J,xH,xw,I,x5,xp⟩:=yH P
     let⟨yX,_,_,yw⟩:=I.Hw
     have xo:∀c,((o c\/¬As m c)\/¬As E c)->J.M c=V.M c:=λc h=>(xp c h).t (xf c h);have yt:Aw J m A5.c 2 p:=ys.Ar λc h i=>⟨xo c (.i (.j i)),I.C4 (.i (.j i))⟩;have yv:Aw J E A5.c 2 (Br g.l d):=xT.Ar λc h i=>⟨xo c (.j i),I.C4 (.j i)⟩;have yz:=xU yv;let⟨xV,xt,yp,xS,xg,xD⟩:=FJ (f:=A5.c) (w:=2) (b:=(⟨v,z⟩:A5)) (o:=.S (A5.c ⟨v,z⟩)) (h:=16) (λ_=>B) B B yt (DG (by omega))
     have xx:∀c,o c->Lv J c:=λc h=>I.C4 (.i (.i h));have xZ:Bj g xt i.1 xH 0 (λc=>o c\/¬As xV c):=I.uv (λc h xP=>⟨xg.M h (AdS λxa=>xP (.i (.j xa))),xg.lv h (AdS λxa=>xP (.i (.j xa)))⟩) λc h=>by
      rcases h with h|h;.exact⟨xg.lv (xx c h) (xh c h),.i (.i (.i h))⟩
      .refine⟨xS.Cz h,?_⟩;by_cases xF:Lv J c;.exact .i (.i (.j λxa=>h (xD c xF xa)))
       .exact .j xF
     have yl:xt.M j=A (.I 7 xl):=(xg.M (xx j n) (xh j n)).t ((xo j (.i (.i n))).t xu);have yn:=AgD N xK xM xL n x0 (by omega) xZ x5 xS (λc h=>xD c (xx c h) (xh c h)) yl k;have yC:jj W9 18 1 [Z Be l,.p g.x 0,.p j 0,m] r=jj W9 18 1 [Z Be l,.p g.x 0,.p j 0,xV] xt:=xz W X (by simp only[QY,xw,Aea];rw[Agk.2.2.2.2.2.2.2.2.2.2.1];simp only[QY,yw,Agk.2.2.2.2.2.2.2.2.2.2.2,xO,yz,yp,Aea])
     rw[yC];exact yn
    .rw[Af P]at k;cases k
     refine⟨λi=>BF i P,λ_=> ?_⟩;let⟨J,yO,xH,xw,I,xp⟩:=yI P
     refine⟨J.set j (.I 7 o7),xz W X ?_⟩;simp only[QY,xw,Aea];exact AgJ I P (.i (.i n)) ((xp j (.i (.i n))).t ((xf j (.i (.i n))).t xu)) _ _ _ _
  .rw[Af t]at k;cases k
   refine⟨λi=>BF i t,λ_=> ?_⟩;let⟨u,yN,ye,W,Y,xf⟩:=yE t
   let⟨yG,_,_,X⟩:=Y.Hw
   refine⟨u.set j (.I 7 o7),xz W X ?_⟩;simp only[QY,t];exact AgJ Y t (.i (.i n)) ((xf j (.i (.i n))).t xu) _ _ _ _
def AgG{b:C K}(u:b.l<1000000000){d:G}{e:T}{I:C F}(n:d.M e=A (.I 7 I))(f g:F):∀(j a:D),a+j=b.l->jj W9 18 8 [.n a,f,g,Z Be b,.p e 0] d=if((b.d a).any λc=>Ao (c<0))=L then A (.AB [.S o7,.sn,.n 3],d.set e (.I 7 o7))else jj W9 18 7 [f,g,Z Be b,.p e 0] d
 |0,a,t=>by
  have k:=DF Be b;have h:¬(a:K)<b.l:=by omega
  have r:((b.d a).any λc=>Ao (c<0))=Aa:=by rw[Ad1 (by omega)];rfl
  rw[r,Ad Bool.false_ne_true,Agk.2.2.2.1];simp only[QY,k,h]
 |j+1,a,t=>by
  have k:=DF Be b;have h:(a:K)<b.l:=by omega
  let⟨c,o⟩:=Bb (b:=b) (a:=a) (by omega)
  have w:=rM o;have x:AM d [.pi (Be c)]=A (.n c):=B;have s:Cb o7 [] []=A (.S o7):=B;have z:=Gb n (a:=o7) B B;have y:(d.set e (.I 7 o7)).AL e 0 7=A o7:=BB (by rw[AN,Af B]);have p:b.d a=c::b.d (a+1):=by
   let⟨E,q⟩:=AdN.1 o
   rw[<-q];exact Ain E
  have v:=AgG u n f g j (a+1) (by omega);rw[p,AfB,Agk.2.2.2.1];simp only[QY,k,h,Agk.2.2.2.2.1,w,x];by_cases m:c<0;.simp only[QY,m,s,z,y,Ad4,Bool.true_or,Aea]
  .simp only[QY,m,Agk.2.2.2.2.2.1,H (Bh (a:=a) (by omega)),Ael,Ae6,Ad3];exact v
def AhX{d:C Ab}{i j:D}{c:AQ}{e:Ai×K}(a:JA d i j c=A e)(l:e.2=0):e.1.AA=0:=by
 unfold JA at a;by_cases f:D5 d=0
 .rw[Ad (λb=>b f)]at a;by_cases g:JS (I8 d) c=0
  .rw[Ad (λb=>b g)]at a;by_cases h:(Co c.l c.BT).2.2=0;.rw[Ad (λb=>b h)]at a;have k:=UH a;exact k.2.2
   .grind
  .grind
 .grind
variable{e:C Ab}
def AhY(xp:Cl e){V p g:D}(xq:V=400)(i:AQ)(xU:i.l.l<=2000000)(xV:i.BT.l<=2000000){d:C K}(yt:d.l<1000000){b:Ai×C A5×K}(k:Tp e V p g i d=A b):AY 18 [Z Ab.c e,.S (AQ.c i),Z Be d] (.AB [.S (C1.c (LS e d b).1),Z A5.c (LS e d b).2.1,.n (LS e d b).2.2]):=by
 let⟨W,E,x0,xX,yk,xR,x6,yv⟩:=box G.Aq (.I 2 (AQ.c i))
 let⟨a,o,x1,xY,xA,xc,yu,yw⟩:=box E (.I 7 o7)
 have xy:∀(m:F->G->R),bl (.p G.Aq.next 0) (G.Aq.V (.I (Bq (F.I (.S (AQ.c i)))) (F.I (.S (AQ.c i))))) m=m (.p W 0) E:=Dy G.Aq (.I 2 (AQ.c i)) x0 xX;have xz:∀(m:F->G->R),bl (.p E.next 0) (E.V (.I 7 o7)) m=m (.p a 0) o:=Dy E _ x1 xY;have xt:o.AL W 0 2=A (AQ.c i):=BB ((xA.M x6).t xR);have xl:Cb o7 [] []=A (.S o7):=B;have xk:∀{U:G}{yi:C F},U.M a=A (.I 7 yi)->AX 7 U [.p a 0,.S o7]=A (AC,U.set a (.I 7 o7))/\(U.set a (.I 7 o7)).AL a 0 7=A o7:=λxQ=>⟨Gb xQ B B,BB (by rw[AN,Af B])⟩;have xo:=ga e xp;by_cases s:D5 e=0
 .have u:=AgG (b:=d) (by omega) xc (Z Ab.c e) (.p W 0) d.l 0 (by omega);rw[Ad7,show((0:D):K)=0 from B]at u;have xh:∀{r:R},jj W9 18 8 [.n 0,Z Ab.c e,.p W 0,Z Be d,.p a 0] o=r->xx W9 18 [Z Ab.c e,.S (AQ.c i),Z Be d] G.Aq=r:=λ{r} xf=>by rw[Agk.1];simp only[↓xy,↓xz,↓Q,↓QT,↓xo.H B,s,Agk.2.1,QB];exact xf
  by_cases v:(d.any λh=>Ao (h<0))=L
  .have M:LS e d b=(OF,[],3):=by unfold LS;rw[Ad (λg=>g s),Af v]
   rw[M];rw[Af v]at u;exact EV B B (e:=.AB [.S o7,.sn,.n 3]) (c:=o.set a (.I 7 o7)) (xh u) (h:=o.set a (.I 7 o7)) B
  .rw[Ad v]at u
   have xZ:∀h∈d,0<=h:=by grind
   unfold Tp at k
   cases I:JA e V p i with
   |none=>rw[I]at k;cases k
   |some x=>
    rw[I]at k;have k:(if x.2≠0 then A (x.1,[],x.2)else LV e V p d g x.1 [])=A b:=k;let⟨yA,T,xr,xH,yl,xF⟩:=fS xp xq i xU xV I o (p:=λh=>h=a) (λh J=>by grind)
    have xm:=(xH a B).t xc;have xv:∀P S:F,CO 0 [.AB [P,S]]=A P:=λ_ _=>B;have xw:∀P S:F,CO 1 [.AB [P,S]]=A S:=λ_ _=>B;by_cases n:x.2=0
    .rw[Ad (λg=>g n)]at k;obtain⟨j,yn,xW,rfl,xB,xG⟩:=xF n;subst xW;let⟨xK,m⟩:=PL (λxT=>HU xT) I n
     have N:=HU xK;have xO:=AhX I n;let⟨yg,yh⟩:=AgD N xq (by omega) xZ (o:=λh=>h=a) (j:=a) B (xl:=o7) m (by rw[xO];rfl) (xB.sub λh J=>J.resolve_right λg=>g (Cg h)) xG (Aw.sn T) (λh _=>Cg h) xm k
     have xs:∀{r:R},jj W9 18 1 [Z Be d,.p j.x 0,.p a 0,.sn] T=r->xx W9 18 [Z Ab.c j.l,.S (AQ.c i),Z Be d] G.Aq=r:=λ{r} xf=>xh (u.t (by rw[Agk.2.2.1];simp only[QY,xt,xr,H (xv _ _),H (xw _ _),n,Agk.2.2.2.2.2.2.1];exact xf))
     by_cases y:b.2.2=0
     .let⟨xu,xd,yo,xg,Y,x9,xP,xS,yy⟩:=yg y
      let⟨xE,_⟩:=iC N m (by grind) k
      have t:=xE y;have x2:∀q∈FF j.l b.1,Gt q b.1.Am.l=L:=λq x3=>by obtain⟨xN,_,rfl⟩:=Aeu.1 x3;exact t.X.W.Bs 0 xN
      have xC:=Y;let⟨yx,ym,xJ,ys⟩:=xC
      let⟨yz,yq,x4,yc,X,yp⟩:=qG N xJ t.X.W.sh
      have x7:=Cp yc;have ye:((Br j.l b.1).l:K)=0:=by omega
      let⟨q,xe,yj,x5,xj,x8,xi,xD⟩:=qC N (Y.ext X) t.X.W.sh t.X.W.f0 t.X.W.Fj t.Ld x2
      have xn:=(xi a (.i B)).t ((X.M (Y.C4 (.i B))).t xS);have ya:Aw xe xu A5.c 2 b.2.1:=x9.Ar λh J p=>⟨(xi h (.j p)).t (X.M J),xD h (.j p)⟩;have yf:=Gb xn (a:=Ei (DA j.l b.1) q) B (xj.dn (DA j.l b.1));have yd:(xe.set a (.I 7 (Ei (DA j.l b.1) q))).AL a 0 7=A (Ei (DA j.l b.1) q):=BB (by rw[AN,Af B]);have yb:Aw (xe.set a (.I 7 (Ei (DA j.l b.1) q))) xu A5.c 2 b.2.1:=ya.Ar λh J p=>⟨by rw[AN,Ad λxL=>p (by rw[xL];exact xP a B)],by grind⟩;have xI:=xj.set xn (.I 7 (Ei (DA j.l b.1) q));unfold LS;rw[Ad (λg=>g s),Ad v,Ad (λg=>g y)];let⟨yr,xM⟩:=W7 (BS.cons (xI.fa x8) (BS.cons ((Fs.Cs (a:=A5.c) (g:=2) (λ_ _=>Aeb) (λ_=>B) (λ_=>B) yb).up (by omega)) (BS.cons ((Fs.im (a:=.n 0) B).up (by omega)) (BS.nil 5 _))))
      refine EV B B (xs ?_) xM;rw[xg,Agk.2.2.2.2.2.2.2.1];simp only[QY,x4,x7,ye,x5,yf,yd]
     .let⟨xd,xg⟩:=yh y
      have M:LS j.l d b=(OF,[],b.2.2):=by unfold LS;rw[Ad (λg=>g s),Ad v,Af y]
      rw[M];exact EV B B (e:=.AB [.S o7,.sn,.n b.2.2]) (c:=xd) (xs xg) (h:=xd) B
    .rw[Af n]at k;cases k
     unfold LS;rw[Ad (λg=>g s),Ad v,Af n];let⟨xa,xb⟩:=xk xm
     refine EV B B (e:=.AB [.S o7,.sn,.n x.2]) (c:=T.set a (.I 7 o7)) (xh (u.t ?_)) (h:=T.set a (.I 7 o7)) B;rw[Agk.2.2.1];simp only[QY,xt,xr,H (xv _ _),H (xw _ _),n,xl,xa,xb]
 .have M:LS e d b=(OF,[],D5 e):=by unfold LS;rw[Af s]
  rw[M];let⟨xa,xb⟩:=xk xc
  refine EV B B (e:=.AB [.S o7,.sn,.n (D5 e)]) (c:=o.set a (.I 7 o7)) ?_ (h:=o.set a (.I 7 o7)) B;rw[Agk.1];simp only[↓xy,↓xz,↓Q,↓QT,↓xo.H B,AdM,s,QB,↓H xl,↓H xa,xb]
def Aia{g:C Ab}{m n f:D}{t:AQ}{o:C K}{h:Ai×C A5×K}(a:Tp g m n f t o=A h):RJ (LS g o h).1:=by
 have p:RJ OF:=⟨AeA _,AeA _,AeA _,(λb c=>by cases c),(λb c=>by cases c)⟩
 unfold LS
 split
 .exact p
 split
 .exact p
 split
 .exact p
 rename_i z _ s
 unfold Tp at a
 cases k:JA g m n t with
 |none=>rw[k]at a;cases a
 |some d=>
  rw[k]at a;have a:(if d.2≠0 then A (d.1,[],d.2)else LV g m n o f d.1 [])=A h:=a;by_cases b:d.2=0
  .rw[Ad (λf=>f b)]at a;let⟨x,r⟩:=PL (λa=>HU a) k b
   have j:=HU x;have E:=r.X.W.AA;let⟨u,_⟩:=iC j r (by grind) a
   have e:=u (AdS s);let⟨w,c⟩:=Bb (b:=h.1.Ac) (a:=0) e.Ld
   let⟨y,v,q⟩:=e.X.W.sh.BC 0 w c
   refine AaR j e.X.W.sh e.X.W.Fj ?_;unfold FF;rw[DK c,q.Ca,Ad9];have:=(j.Bc y v q.hb).Bk;omega
  .rw[Af b]at a;cases a
   exact BF b s
def Ah8{g h d:D}{l:AQ}{i:C K}{j:Ai×C A5×K}(a:Tp e g h d l i=A j):(LS e i j).2.1.l<=6001:=by
 unfold LS
 split
 .exact AeA _
 split
 .exact AeA _
 split
 .exact AeA _
 rename_i o _ n
 unfold Tp at a
 cases f:JA e g h l with
 |none=>rw[f]at a;cases a
 |some b=>
  rw[f]at a;have a:(if b.2≠0 then A (b.1,[],b.2)else LV e g h i d b.1 [])=A j:=a;by_cases c:b.2=0
  .rw[Ad (λd=>d c)]at a;let⟨m,k⟩:=PL (λa=>HU a) f c
   have p:=k.X.W.AA;exact(iC (HU m) k (by grind) a).2
  .rw[Af c]at a;cases a
   exact BF c n
def AgH(a:C A5)(s:a.l<1000000000)(j m c n o p:F)(d:G):∀(g b:D),b+g=a.l->jj W9 4 2 [Z A5.c a,Z A5.c a,.n b,j,m,c,n,o,p] d=jj W9 4 1 [j,m,c,n,o,p] d
 |0,b,r=>by
  have h:=DF A5.c a;have c:¬(b:K)<a.l:=by omega
  rw[kq4.2.2.2.2.1];simp only[QY,h,c]
 |g+1,b,r=>by
  have h:=DF A5.c a;have c:(b:K)<a.l:=by omega
  let⟨e,t⟩:=Bb (b:=a) (a:=b) (by omega)
  have u:=EZ (a:=A5.c) (f:=2) (i:=.n) t B;have v:A9 2 d [.pi (A5.c e)]=A (.S (A5.c e)):=B;have q:FT L [0,0] [.S (A5.c e),.S (A5.c e)]=A (.b Aa):=by simp[A5.c]
  rw[kq4.2.2.2.2.1];simp only[QY,h,c,kq4.2.2.2.2.2.1,u,v,q,QB,kq4.2.2.2.2.2.2,H (Bh (a:=b) (by omega))];exact AgH a s _ _ _ _ _ _ d g (b+1) (by omega)
def Fs.AhR{k:T->Prop}{x:Type}{j i:G}{g:F}{f:x->C _}{h:D}{c:C _}(o:∀b,¬As g b->k b)(q:∀e,(f e).l=h)(v:∀e,(f e).all Im=L)(t:Aw j g f h c)(a:∀b r s,¬As g b->DR (j.M b)=A (r,s)->DR (i.M b)=A (r,s)):Fs k 2 i g (YtbmnfifnenajjaaGreat.Z f c):=by
 rcases t with⟨rfl,rfl⟩|⟨l,m,rfl,u,n,_⟩;.exact(Fs.sn i).up (by omega)
 .refine Fs.M0 (k:=1) (o l (λa=>a 0 c.l m h B)) q q (a l _ _ (λa=>a 0 c.l m h B) (by rw[n];rfl)) ?_
  clear n u o a
  induction c with
  |nil=>exact .nil
  |cons e y w=>exact .cons (BS.Oh (v e)) w
def AhS(N:AY 9 [] (.b L)){a:AQ}{b:C K}(xI:IZ e)(xq:a.Cl)(yc:b.l<1000000000):AY 4 [Z Ab.c e,.S (AQ.c a),Z Be b] (.b L):=by
 let⟨x1,T,xw⟩:=g4 e a xI xq
 let⟨g,h,xK,xE,ya,xl,U,yf⟩:=box G.Aq (.I 2 (AQ.c a))
 have yj:∀(xj:F->G->R),bl (.p G.Aq.next 0) (G.Aq.V (.I (Bq (F.I (.S (AQ.c a)))) (F.I (.S (AQ.c a))))) xj=xj (.p g 0) h:=Dy G.Aq (.I 2 (AQ.c a)) xK xE;have yi:h.AL g 0 2=A (AQ.c a):=BB xl;have xd:=DF Be b;cases x1
 .refine Bu B B B ⟨h,?_⟩;rw[kq4.1];simp only[QY,T.H B,QB,N.H B, *]
 let⟨P,yd,u⟩:=xw B
 let⟨x2,xc⟩:=g5 P a (by have:=u.1;omega) (by have:=u.2.1;omega)
 cases x2
 .refine Bu B B B ⟨h,?_⟩;rw[kq4.1];simp only[QY,T.H B,xc.H B,QB,N.H B, *]
 by_cases i:b.l>(60:K);.refine Bu B B B ⟨h,?_⟩;rw[kq4.1];simp only[QY,T.H B,xc.H B,QB,N.H B, *]
 obtain⟨y,xn⟩:∃y:D,y=400:=⟨_,B⟩;obtain⟨k,xJ⟩:∃k:D,2000000<k:=⟨2000001,by omega⟩;obtain⟨S,xH⟩:∃S:D,6000<S:=⟨6001,by omega⟩;let⟨z,Q⟩:=Adi (c:=e) (d:=y) xJ xH a b
 have xu:=g7 e P;have xv:=g8 a xq;have I:=p6 P xn a (by have:=u.1;omega) (AaD u) (by omega) Q;have J:=AhY P xn a (by have:=u.1;omega) (by have:=u.2.1;omega) (by omega) Q;have W:=pa (LS e b z).1 (LS e b z).1 (Aia Q);rw[k6,A0 B]at W;have x0:=Ah8 Q;generalize(LS e b z).1=v at I J W;generalize(LS e b z).2.2=j at I J;generalize(LS e b z).2.1=E at I J x0;let⟨x,s,xN,xf,xk,xx⟩:=Tt (f:=Be) (w:=1) (a:=b) (j:=8) (λ_=>B) (λ_=>B) (Rw h Be 1) (DG (by grind))
 have xT:h.next≠g:=λj=>by rw[<-j]at U;exact EX _ U
 have xe:Lv (h.V (.I 0 [])) g:=(AH.V h _).lv U;have Y:As (.Z h.next 0 0 1 1) g:=EN xT;have xa:=(xk.M xe Y).t (((AH.V h (.I 0 [])).M U).t xl);have xQ:=xk.lv xe Y;have x3:=xx g xe Y;have xU:s.AL g 0 2=A (AQ.c a):=BB xa;have xP:KI (A9 2 s [.p g 0]) (.S (AQ.c a))=L:=Mo xa;have xr:BS (λo=>¬As x o) 2 s [Z Ab.c e,.S (AQ.c a),x] [Z Ab.c e,.S (AQ.c a),Z Be b]:=BS.cons ((Fs.im (a:=Z Ab.c e) B).up (by omega)) (BS.cons (Fs.S (a:=1) (BS.Oh (c:=s) (a:=AQ.c a) B)) (BS.cons (Fs.Cs (a:=Be) (g:=1) (λo k=>k) (λ_=>B) (λ_=>B) xf) (BS.nil 2 s)));let⟨t,xz,M⟩:=BS.FV xr (by omega)
 have xL:=I s _ t xz;have xB:t.M g=A (.I 2 (AQ.c a)):=(M.o g (λS=>S x3)).t xa;have xR:Lv t g:=by rw[M.l];exact xQ
 let⟨xg,xb,xo,xF,V,xC,xO,yg⟩:=box t (.I 7 v.c)
 let⟨x8,xY⟩:=EL t (b:=7) [.sn,.sn,(.n 0),(.n 0),(.n 0),(.n 0),.sn] (c:=v.c) xo xF B B
 let⟨xh,p,xp,xG,xi,xD,ye,yh⟩:=box xb (.I 7 v.c)
 let⟨x9,xZ⟩:=EL xb (b:=7) [.sn,.sn,(.n 0),(.n 0),(.n 0),(.n 0),.sn] (c:=v.c) xp xG B B
 have xV:xb.AL g 0 2=A (AQ.c a):=BB ((V.M xR).t xB);have xW:p.AL xg 0 7=A v.c:=BB ((xi.M xO).t xC);have xX:p.AL xh 0 7=A v.c:=BB xD;have xt:BS (λo=>¬As x o) 2 p [x,Z Be b] [Z Be b,Z Be b]:=BS.cons (Fs.AhR (f:=Be) (h:=1) (λo k=>k) (λ_=>B) (λ_=>B) xf (λo y x7 k i=>by
  have xd:Lv t o:=by rw[M.l];exact xf.Cz k
  rw[xi.M (V.lv xd),V.M xd];exact M.p.1 o y x7 i)) (BS.cons ((Fs.im (a:=Z Be b) B).up (by omega)) (BS.nil 2 p))
 let⟨xm,xA,yb⟩:=BS.FV xt (by omega)
 have xM:=qE b (by omega) p _ xm xA;have x4:∀q r i:F,CO 0 [.AB [q,r,i]]=A q:=λ_ _ _=>B;have x5:∀q r i:F,CO 1 [.AB [q,r,i]]=A r:=λ_ _ _=>B;have x6:∀q r i:F,CO 2 [.AB [q,r,i]]=A i:=λ_ _ _=>B;have xS:=DF A5.c E;have X:=AgH E (by omega) (.p xg 0) (.p xh 0) (.n j) (.n j) x (Z Be b) p E.l 0 (by omega);refine Bu B B B ⟨xm,?_⟩;rw[kq4.1];simp only[QY,T.H B,xc.H B,QB, *];rw[kq4.2.1];simp only[QY,xu.H B,xv.H B,J.H B,NT,xN,xU,xP,xL,x4,x5,x6,↓x8,xo,xY,xV,↓x9,xp,xZ,QB,xS,kq4.2.2.1];have X:jj W9 4 2 [Z A5.c E,Z A5.c E,.n 0,.p xg 0,.p xh 0,.n j,.n j,x,Z Be b] p=_:=X;have xy:j=j:=B;rw[X,kq4.2.2.2.1];simp only[QY,xW,xX,W.H B,xM,N.H B,QB,xy]
def Ah9{a:C Ab}{c:AQ}{b:C K}(d:IZ a)(f:c.Cl)(e:b.l<1000000000):R1 P9 4 [Z Ab.c a,.S (AQ.c c),Z Be b] (.b L):=
 k1 (u:=L3 P9) (w:=KX) (v:=λ_ _=>O) (by kernel_rfl) AaI (vp _) (by decide) ((AhS g6 d f e).at B G.Aq) (W6 (b:=.b L) B _)
end Go.Proofs.YtbmnfifnenajjaaGreat
namespace Go.Proofs.YtbmnfifnenajjaaGreat
def sp4:ChangeSpec:=(Rows.OpenSpec.upto Rows.closureOrdersSpec).bare
def AgN:Rows.closureOrdersUptoRow.wf (OpenSpec.ofChange sp4)=L:=by kernel_rfl
def Ahc:namedTie Tryz.prog Rows.closureOrdersUptoRow.named sp4.vars=L:=by kernel_rfl
def Ahg:(Tryz.prog.stopKnobs==[])=L:=by kernel_rfl
def AgR:(Rows.closureOrdersUptoRow.named==Tryz.prog.varsNamed 4)=L:=by kernel_rfl
def AgV:(Rows.closureOrdersUptoRow.loops==(Tryz.f4.params.l++sp4.plain.varTypes Tryz.prog).any (Tryz.prog.loopsFrom ·))=L:=by kernel_rfl
def Ag0:(Rows.closureOrdersUptoRow.ifacesOut==Tryz.f4.resultTypes.l.any (Tryz.prog.ifacesRec ·))=L:=by kernel_rfl
def Ag4:Tryz.prog.stopsHeard=L:=by kernel_rfl
def AgO:laidOutB Tryz.prog=L:=by kernel_rfl
def Ahd:(Rows.closureOrdersUptoRow.stops==[])=L:=by kernel_rfl
def Ahh:(Rows.closureOrdersUptoRow.inPlace==Tryz.prog.inPlace 4)=L:=by kernel_rfl
def AgS:(Rows.closureOrdersUptoRow.maps==(Tryz.f4.params.l++sp4.plain.varTypes Tryz.prog).any (Tryz.prog.mapsRec ·))=L:=by kernel_rfl
def AgW:(Rows.closureOrdersUptoRow.wideKeys==(Tryz.f4.params.l++sp4.plain.varTypes Tryz.prog++Tryz.f4.resultTypes.l).any (Tryz.prog.wideKeysFrom ·))=L:=by kernel_rfl
def Ag1:(Rows.closureOrdersUptoRow.loopsOut==Tryz.f4.resultTypes.l.any (Tryz.prog.loopsFrom ·))=L:=by kernel_rfl
def Ag5:Tryz.prog.mayEnter=L:=by kernel_rfl
def Ag8:(Rows.closureOrdersUptoRow.pinned==Rows.closureOrdersUptoRow.pinnedBy)=L:=by kernel_rfl
def AgZ:mapsRowed Tryz.prog=L:=by kernel_rfl
def Ahe:(Tryz.prog.stops==[])=L:=by kernel_rfl
def AgP:(Rows.closureOrdersUptoRow.unfollowed==Tryz.prog.unfollowed 4)=L:=by kernel_rfl
def AgT:(Rows.closureOrdersUptoRow.ifaces==(Tryz.f4.params.l++sp4.plain.varTypes Tryz.prog).any (Tryz.prog.ifacesRec ·))=L:=by kernel_rfl
def AgX:sp4.vars.all (Tryz.prog.varReadable ·)=L:=by kernel_rfl
def Ag2:(Rows.closureOrdersUptoRow.plainKeys==Tryz.prog.plainKeys)=L:=by kernel_rfl
def Ag6:(Rows.closureOrdersUptoRow.lifted==Tryz.prog.liftsFinal)=L:=by kernel_rfl
def Aha:(Rows.closureOrdersUptoRow.veiled==(Tryz.f4.params.l++sp4.plain.varTypes Tryz.prog++Tryz.f4.resultTypes.l).any (Tryz.prog.veiledRec ·))=L:=by kernel_rfl
def Ag9:Tryz.f4.params.all (Tryz.prog.readableRec ·)=L:=by kernel_rfl
def Ahf:(Rows.closureOrdersUptoRow.knobs==[])=L:=by kernel_rfl
def AgQ:(Rows.closureOrdersUptoRow.recurses==Tryz.prog.recurses 4)=L:=by kernel_rfl
def AgU:(Rows.closureOrdersUptoRow.mapsOut==Tryz.prog.mapsAmong Tryz.f4.resultTypes.l)=L:=by kernel_rfl
def AgY:Tryz.f4.resultTypes.all (λa=>Tryz.prog.readableRec a&&Ao (a<Tryz.prog.types.z))=L:=by kernel_rfl
def Ag3:Rows.closureOrdersUptoRow.shortTexts.isNone=L:=by kernel_rfl
def Ag7:(Tryz.prog.make==A Rows.closureOrdersUptoRow.make)=L:=by kernel_rfl
def Ahb:Rows.closureOrdersUptoRow.veiledFits Tryz.prog Tryz.f4.params.l (Tryz.f4.params.l++sp4.plain.varTypes Tryz.prog++Tryz.f4.resultTypes.l)=L:=by kernel_rfl
def AhN:joinedFacts Tryz.prog 4 Tryz.f4 sp4 Rows.closureOrdersUptoRow=L:=by unfold joinedFacts;exact Fu (Fu (Fu (Fu (Fu (Fu (Fu (Fu (Fu (Fu (Fu (Fu (Fu (Fu (Fu (Fu (Fu (Fu (Fu (Fu (Fu (Fu (Fu (Fu (Fu (Fu (Fu (Fu (Fu (Fu (Fu AgN AgO) AgZ) Ag9) Ahc) Ahd) Ahe) Ahf) Ahg) Ahh) AgP) AgQ) AgR) AgS) AgT) AgU) AgV) AgW) AgX) AgY) Ag0) Ag1) Ag2) Ag3) Ag4) Ag5) Ag6) Ag7) (by kernel_rfl)) Ag8) Aha) Ahb
def AhV:Tryz.prog.funcNamed Rows.closureOrdersUptoRow.func=A 4:=by kernel_rfl
set_option maxRecDepth 100000 in
theorem Aib:Func.isWrapper Tryz.prog Tryz.f4 Rows.closureOrdersUptoRow.wrapper Rows.closureOrdersUptoRow.mainSum:=by unfold Func.isWrapper;first|(rw[Af (by decide+kernel)];kernel_rfl)|(rw[Ad (by decide+kernel)];exact⟨B,B⟩)
def AhQ:Tryz.f4.isInstance Tryz.prog Rows.closureOrdersUptoRow.origin Rows.closureOrdersUptoRow.targs:=Go.Fg.Afg (by kernel_rfl)
