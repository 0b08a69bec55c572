/- Part of the proof. -/
import Derived.Test.YtmnfpdedgnfeiaaGreatMbl
set_option linter.all false
noncomputable section
open Option renaming some->A,getD->Option.g,bind->Option.b
open _root_ renaming rfl->B,List->C,Nat->D,Int->K,if_neg->Ad,if_pos->Af,Option->Aj,Bool->Ak,absurd->A_
open Bool renaming true->L,false->Ac
open Decidable renaming decide->Au
open List renaming replicate->Bv,length->List.l,map->List.m,take->List.t,flatMap->List.f
open Nat renaming le_refl->C6
open Go.IntKind renaming i64->Go.IntKind.n
open Array renaming toList->Array.l
open Eq renaming trans->Eq.t,symm->Eq.s
open Or renaming inl->Or.i,inr->Or.j
open Int renaming toNat->Int.n
namespace Go.Proofs.YtmnfpdedgnfeiaaGreat
open Go.Fg
open Classical in
theorem D9.Abt {g:CW} {b:G} {e:Ah} {d:Aa->Prop} (i:D9 g b e d) {c:G} {f:Aa->Prop} (n:∀a,Lv b a->¬d a->c.N a=b.N a/\Lv c a) (o:∀a,f a->Lv c a/\(d a\/¬Lv b a)):D9 g c e f:=by
 let⟨l,m,h,j,k,p⟩:=i
 refine⟨l,_,h,(j.UW P:EU (λa=>if Lv b a then m a else .DK) b _ _ _ _ e h).Av P,k,P⟩<;>grind
def vp{b:C _}{a:D}{c:K}(d:b[a]? =A c):AZ 1 [Z Bq b,.n a]=A (.pi (Bq c)):=Fi d B
variable{a:Ah}
def Ack{b:CW}{g:G}{M:Aa->Prop}{p:F}(N:D9 b g a (λd=>M d\/¬AE p d))(xr:0<=a.Aq)(o:AF g p A8.c 2 (Bp b.l a))(xt:(Bp b.l a).l<1000000000)(V:(Bp b.l a).l≠0){c:C K}(xv:c.l<1000000000)(xa:∀d∈c,0<=d)(s t:F):∃e k,jj W9 11 6 [p,s,Z Bq c,.p b.x 0,t] g=jj W9 11 5 [s,.p e 0,Z Bq c,.p b.x 0,t] k/\AR g k/\k.N e=A (.I 2 (A8.c (NP (Bp b.l a) c a.Aq)))/\Lv k e/\¬Lv g e:=by
 have h:=WU V c a.Aq;let⟨J,y⟩:=Bo (b:=Bp b.l a) (a:=0) (by omega)
 let⟨S,v⟩:=Dm (f:=A8.c) (w:=2) (λ_=>B) o y
 have xk:=v.AU (f:=A8.c) (λ_=>B) y;have xd:AZ 2 [p,.n 0]=A (.p S (0*2)):=v.ia;let⟨T,q⟩:=Dm (f:=A8.c) (w:=2) (λ_=>B) o h
 have xy:=q.AU (f:=A8.c) (λ_=>B) h;let⟨e,m,E,Y,j,X,xf,I⟩:=box g (.I 2 (A8.c J))
 let⟨xp,xm⟩:=F0 g (b:=2) [(.n 0),(.n 0)] (c:=A8.c J) E Y B B
 have Q:=N.ext j;let⟨xw,xx,xz,R,xb,xs⟩:=Q
 have xo:=R.N;have xg:=Ek Bq c;have xi:=C4 (o.ext j);by_cases U:a.Aq<c.l
 .let⟨d,xc⟩:=Bo (b:=c) (a:=a.Aq.n) (by omega)
  have xj:=xa d P;have xe:AZ 1 [Z Bq c,.n a.Aq]=A (.pi (Bq d)):=by have:=vp xc;grind
  have xh:AW m [.pi (Bq d)]=A (.n d):=B;have z:((Bp b.l a).l:K)≠0:=by omega
  have xu:=Int.emod_nonneg d z;have r:Ot (Bp b.l a).l c a.Aq=(d %(Bp b.l a).l).n:=by unfold Ot;grind
  have W:A7 .rem [.n d,.n (Bp b.l a).l]=A (.n (Ot (Bp b.l a).l c a.Aq)):=by rw[Yh .n _ z,AkE xj,r];congr 2;omega
  have xl:m.AU T (Ot (Bp b.l a).l c a.Aq*2) 2=A (A8.c (NP (Bp b.l a) c a.Aq)):=by
   let⟨xq,u⟩:=Dm (f:=A8.c) (w:=2) (λ_=>B) (o.ext j) h
   have x:=u.ia;rw[q.ia]at x;cases x
   exact u.AU (f:=A8.c) (λ_=>B) h
  have xn:=Ho X (a:=A8.c (NP (Bp b.l a) c a.Aq)) B B;refine⟨e,m.set e (.I 2 (A8.c (NP (Bp b.l a) c a.Aq))),?_,λd xb=>⟨by rw[AY,Ad P];grind,by grind⟩,by rw[AY,Af B],by grind,I⟩;rw[IK.2.2.2.2.2.2.1];simp only[QY,xp,xd,xk,E,xm,xo,xg,U,xe,xh,xi,W,H q.ia,xl,xn]
 .have r:Ot (Bp b.l a).l c a.Aq=0:=by unfold Ot;grind
  rw[r]at h;refine⟨e,m,?_,j,by grind,xf,I⟩;rw[IK.2.2.2.2.2.2.1];simp only[QY, *]
def k0{e:CW}(z:Bj e.l)(xl:Lx e){S:D}(xv:S=400){r:D}{j:C K}(xx:j.l<1000000000)(xw:∀c∈j,0<=c):∀{xi:D}{q:G}{d:Ah}{i:Aa->Prop}{o:F}{m:C A8}{k:Aa}{s:Ah×C A8×K},GI e.l d->m.l<=d.Aq->D9 e q d (λc=>i c\/¬AE o c)->AF q o A8.c 2 m->(∀c,i c->AE o c)->IQ e.l S r j xi d m=A s->∃V N,jj W9 11 4 [Z Bq j,.p e.x 0,.n 0,o,.p k 0] q=jj W9 11 3 [.p e.x 0,.n s.2.2,V,.p k 0] N/\D9 e N s.1 (λc=>i c\/¬AE V c)/\AF N V A8.c 2 s.2.1/\(∀c,i c->AE V c)/\BD i q N
 |0,_,_,_,_,_,_,_,_,_,_,_,_,g=>by cases g
 |xi+1,q,d,i,o,m,k,s,p,yi,xI,x0,xc,g=>by
  have xE:=dD z p.X;have yj:=p.X.W.Aq;have yk:=p.r0;have yl:=p.rf;let⟨yw,xr,xy,xB,u,xN,yg⟩:=ee xI p.X.W.sh xE
  have xA:=C4 xB;have xF:=x0.Av λc h r=>⟨P,u.Dy P⟩;unfold IQ at g;by_cases J:(Bp e.l d).l=0
  .rw[Af J]at g;cases g
   have xa:((Bp e.l d).l:K)=0:=by omega
   refine⟨o,xr,?_,u.sub P,xF,xc,P⟩;rw[IK.2.2.2.2.1];simp only[QY,IK.2.2.2.2.2.1,xy,xA,xa]
  .rw[Ad J]at g;have xh:=Ail (WU J j d.Aq);let⟨E,xR,xX,t,xe,xj,ys⟩:=Ack u Om xB (eg p.X.W.sh xE) J xx xw o (.p k 0)
   generalize NP (Bp e.l d) j d.Aq=n at g xh xe;have yr:(m++[n]).l=m.l+1:=by rw[Aio];rfl
   let⟨l,xS,xZ,x1,xb,xp⟩:=GS (f:=A8.c) (w:=2) (b:=n) (o:=.S (A8.c n)) (h:=16) (λ_=>B) B B (xF.ext t) (EI (by omega))
   have yq:=xb.lv xj P;have yv:=xp E xj P;have xk:∀c,i c->Lv xr c:=λc h=>u.Dy (.i (.i h));have xd:=λc h=>xp c (t.lv (xk c h)) (xc c h);let⟨x3,x5,x9,xn,xV,xU⟩:=(((u.V t).sub P:D9 e xR d (λc=>(i c\/¬AE o c)\/c=E)).Abt P P:D9 e xS d (λc=>(i c\/¬AE l c)\/c=E))
   let⟨xs,x6,xo,xM⟩:=xn.ac (d.round+1)
   have xm:=xM.FQ (by intro d;cases d) xU;let⟨ym,yo,yd,yc,yt,yn,xH⟩:=AbW z p xh
   let⟨xt,x4,xY,v,xO,_⟩:=iD (⟨x5,x9,xo,xV,P⟩:Cn e xs ⟨d.T,d.Ae,d.round+1,d.Aq⟩ x3 (λc=>(i c\/¬AE l c)\/c=E)) xl xH (d.round+1)
   have v:D9 e xt _ _:=⟨x4,v⟩;have xC:=x1.Av λc h r=>⟨P,v.Dy P⟩;have xa:¬((Bp e.l d).l:K)=0:=by omega
   have U:∀{Y:R},((W9 _ [.p e.x 0,.S (A8.c n),.n (d.round+1)] xs).b λT=>
     (A7 .eql [T.1,(.n 0)]).b λx8=>
     Dw ((W9 (Ar 37) [.p e.x 0] T.2).b λxG=>jj W9 11 4 [Z Bq j,.p e.x 0,xG.1,l,.p k 0] xG.2) (jj W9 11 4 [Z Bq j,.p e.x 0,T.1,l,.p k 0] T.2) x8)=Y->jj W9 11 4 [Z Bq j,.p e.x 0,.n 0,o,.p k 0] q=Y:=λ{Y} yh=>by
    rw[IK.2.2.2.2.1]
    simp only[QY,IK.2.2.2.2.2.1,xy,xA,xa]
    rw[xX,IK.2.2.2.2.2.2.2.1]
    simp only[QY,xe,xZ,xn.N,(GJ (a:=d.round) (b:=1) (by omega) (by omega)),x6,(B2 ((xm.2 E (.j B)).t ((xb.N xj P).t xe))),xo.N]
    omega
   rw[H xY]at U;have yu:∀(W:K)(xf:G),W≠0->jj W9 11 4 [Z Bq j,.p e.x 0,.n W,l,.p k 0] xf=jj W9 11 3 [.p e.x 0,.n W,l,.p k 0] xf:=λW xf xW=>by rw[IK.2.2.2.2.1];simp only[↓Q,↓QT,Aic,xW]
   by_cases M:(Ev e.l ⟨d.T,d.Ae,d.round+1,d.Aq⟩ n (d.round+1)).2=0
   .rw[Ad Om]at g
    let⟨xP,ye,xL⟩:=Zz z p xh M
    cases xg:Hf e.l S r (Ev e.l ⟨d.T,d.Ae,d.round+1,d.Aq⟩ n (d.round+1)).1 with
    |none=>grind
    |some I=>
     rw[xg]at g;let⟨xK,yf⟩:=xL xg
     have g:(if I.2≠0 then A (I.1,m++[n],I.2)else IQ e.l S r j xi I.1 (m++[n]))=A s:=g;let⟨xu,xz,X,ya⟩:=co z xv (v.sub (c:=λc=>i c\/¬AE l c) P) xP.W.sh xg
     have xD:AF xu l A8.c 2 (m++[n]):=xC.Av λc h r=>⟨P,X.Dy P⟩;by_cases xq:I.2=0
     .rw[Ad Om]at g;let⟨x7,xT,yp,xJ,x2,xQ,yb⟩:=k0 z xl xv xx xw (k:=k) xK (by omega) X xD xd g
      refine⟨x7,xT,U ?_,xJ,x2,xQ,P⟩;rw[xq]at xz;simp only[QY,M,xz];omega
     .rw[Af xq]at g;cases g
      refine⟨l,xu,U ?_,X,xD,xd,P⟩;simp only[QY, *];grind
   .rw[Af M]at g;cases g
    refine⟨l,xt,U ?_,v.sub P,xC,xd,(λc h=>(xO c (.i (.i h))).t ((xm.2 c (.i (.i h))).t ((xb.N (t.lv (xk c h)) (xc c h)).t ((t.N (xk c h)).t (xN c (.i h))))))⟩;simp only[↓Q,↓QT,Aic,M];grind
def GF(b:C Ab)(d:C K)(a:Ah×C A8×K):Cv×C A8×K:=
 if DR b≠0 then(GR,[],DR b)else if(d.any λc=>Au (c<0))=L then(GR,[],3)else if a.2.2≠0 then(GR,[],a.2.2)else(Ec b a.1,a.2.1,0)
def ol(e:C _)(c:G):NU (λb=>b=c) (Ar 33) [] e (λa=>.n a) (λa=>Au (a<0)):=λa _ b d=>⟨b,Bd B B (by rw[wE,H (E1 .n a 0)]),d⟩
def ky(b:C K)(d:b.l<1000000000)(a:G):W9 (Ar 32) [Z Bq b,.f (Ar 33) []] a=A (.b (b.any λe=>Au (e<0)),a):=by obtain⟨h,i,rfl⟩:=NX f0 ja (t:=λc=>c=a) (Jt.Z (b:=Bq) (z:=1) b (w:=λg=>.n g) (y:=AW) (λ_=>B) (λ_ _=>B)) (ol b a) d a B;grind
def ch{i:C Ab}(xm:CA i){T p N:D}(xn:T=400)(j:AS)(xK:j.l.l<=2000000)(xL:El j.l<=100000000){h:C K}(yi:h.l<1000000){b:Ah×C A8×K}(n:L2 i T p N j h=A b):A2 11 [Z Ab.c i,.S (AS.c j),Z Bq h] (.AC [.S (Cv.c (GF i h b).1),Z A8.c (GF i h b).2.1,.n (GF i h b).2.2]):=by
 let⟨xq,v,xQ,xO,x6,yc,yk,ym⟩:=box G.Az (.I 2 (AS.c j))
 let⟨a,k,xR,xP,x7,xb,yl,yn⟩:=box v (.I 7 o7)
 have x3:∀(m:F->G->R),bl (.p G.Az.next 0) (G.Az.V (.I (BK (F.I (.S (AS.c j)))) (F.I (.S (AS.c j))))) m=m (.p xq 0) v:=Em G.Az (.I 2 (AS.c j)) xQ xO;have x4:∀(m:F->G->R),bl (.p v.next 0) (v.V (.I 7 o7)) m=m (.p a 0) k:=Em v _ xR xP;have xZ:k.AU xq 0 2=A (AS.c j):=B2 P;have yo:k.AU a 0 7=A o7:=B2 xb;have ys:=Ho xb (a:=o7) B B;have yp:(k.set a (.I 7 o7)).AU a 0 7=A o7:=B2 (by rw[AY,Af B]);have W:=uq i xm;by_cases xD:DR i=0
 .by_cases xa:(h.any λd=>Au (d<0))=L
  .have y:GF i h b=(GR,[],3):=by unfold GF;grind
   rw[y];have S:=ky h (by omega) k;rw[xa]at S;refine FN B B (e:=.AC [.S o7,.sn,.n 3]) (c:=k.set a (.I 7 o7)) ?_ (h:=k.set a (.I 7 o7)) B;rw[IK.1];simp only[QY,W.H B,IK.2.1,QB, *]
  .have xF:(h.any λd=>Au (d<0))=Ac:=by grind
   have S:=ky h (by omega) k
   rw[xF]at S
   unfold L2 at n
   cases xc:HH i T p j with
   |none=>grind
   |some r=>
    rw[xc]at n;have n:(if r.2≠0 then A (r.1,[],r.2)else IQ i T p h N r.1 [])=A b:=n;let⟨x2,M,xT,xB,x8,xA⟩:=iC xm xn j xK xL xc k (n:=λd=>d=a) (λd q=>by grind)
    have xI:=(xB a B).t xb;have xr:∀I J:F,Ca 0 [.AC [I,J]]=A I:=λ_ _=>B;have xs:∀I J:F,Ca 1 [.AC [I,J]]=A J:=λ_ _=>B;have U:∀{Y:R},jj W9 11 4 [Z Bq h,x2,.n r.2,.sn,.p a 0] M=Y->xx W9 11 [Z Ab.c i,.S (AS.c j),Z Bq h] G.Az=Y:=λ{Y} yf=>by rw[IK.1];simp only[↓x3,↓x4,↓Q,↓QT,↓W.H B,xD,IK.2.1,↓H S,QB,IK.2.2.1,↓H xZ,↓H xT,↓H (xr _ _),↓H (xs _ _)];grind
    have x9:∀{x:G}{xt:C F}{z V:F}{t:K},x.N a=A (.I 7 xt)->t≠0->jj W9 11 3 [z,.n t,V,.p a 0] x=A (.AC [.S o7,.sn,.n t],x.set a (.I 7 o7)):=λ{x xt z V t} xN yg=>by have ya:BE o7 [] []=A (.S o7):=B;have yt:=Ho xN (a:=o7) B B;have yr:(x.set a (.I 7 o7)).AU a 0 7=A o7:=B2 (by rw[AY,Af B]);rw[IK.2.2.2.1];simp only[QY,IK.2.2.2.2.2.2.2.2.1, *]
    by_cases s:r.2=0
    .rw[Ad Om]at n;obtain⟨e,xM,rfl,xy,xu⟩:=xA s;subst xM;let⟨xE,m⟩:=NN (λxJ=>GU xJ) xc s
     have X:=GU xE;have yh:=m.X.W.Aq;let⟨V,xk,xo,xv,xW,yb,xC⟩:=k0 X xy xn (by omega) P (o:=.sn) (m:=[]) (k:=a) m (by grind) (xu.sub λd q=>q.resolve_right λN=>N (CM d)) (AF.sn M) (λd _=>CM d) n
     rw[s]at U;by_cases xh:b.2.2=0
     .let⟨xz,_⟩:=ZB X m (by grind) n
      have E:=xz xh;let⟨g,o,x5,yj,xe,xV,xd,xw⟩:=iv X xv E.X.W.sh E.X.W.E8 E.F_ (λz xS=>by obtain⟨xH,_,rfl⟩:=AiR.1 xS;exact E.X.W.A9 0 xH:∀z∈HA e.l b.1,GP z b.1.Ae.l=L)
      have xi:=(xd a (.i B)).t ((xC a B).t xI);have xX:=xW.Av λd q p=>⟨xd d (.j p),xw d (.j p)⟩;have xg:=xe.at7 (Ec e.l b.1);have yu:=Ho xi (a:=FP (Ec e.l b.1) g) B xg;have yq:(o.set a (.I 7 (FP (Ec e.l b.1) g))).AU a 0 7=A (FP (Ec e.l b.1) g):=B2 (by rw[AY,Af B]);have xj:(o.set a (.I 7 (FP (Ec e.l b.1) g))).N a=A (.I 7 (FP (Ec e.l b.1) g)):=by rw[AY,Af B]
      have x1:=Ho xj (a:=FP (Ec e.l b.1) g) B xg;have x0:((o.set a (.I 7 (FP (Ec e.l b.1) g))).set a (.I 7 (FP (Ec e.l b.1) g))).AU a 0 7=A (FP (Ec e.l b.1) g):=B2 (by rw[AY,Af B]);have xp:∀d,d≠a->((o.set a (.I 7 (FP (Ec e.l b.1) g))).set a (.I 7 (FP (Ec e.l b.1) g))).N d=o.N d:=λd q=>by rw[AY,Ad q,AY,Ad q]
      have xU:∀d,Lv ((o.set a (.I 7 (FP (Ec e.l b.1) g))).set a (.I 7 (FP (Ec e.l b.1) g))) d=Lv o d:=by grind
      have xf:=(xe.set xi (.I 7 (FP (Ec e.l b.1) g))).set xj (.I 7 (FP (Ec e.l b.1) g));generalize ye:(o.set a (.I 7 (FP (Ec e.l b.1) g))).set a (.I 7 (FP (Ec e.l b.1) g))=xl at x1 x0 xp xU xf;have xY:AF xl V A8.c 2 b.2.1:=xX.Av λd q p=>⟨xp d λt=>p (by grind),by grind⟩;unfold GF;rw[Ad Om,Ad xa,Ad Om];let⟨yd,xG⟩:=VS (B6.cons (xf.fa xV) (B6.cons ((Fs.CC (a:=A8.c) (g:=2) (λ_ _=>Ais) (λ_=>B) (λ_=>B) xY).up (by omega)) (B6.cons ((Fs.im (a:=.n 0) B).up (by omega)) (B6.nil 5 _))))
      refine FN B B (c:=xl) (U ?_) xG;rw[xo,xh,IK.2.2.2.1];simp only[QY,H (xr _ _),H (xs _ _),IK.2.2.2.2.2.2.2.2.1,IK.2.2.2.2.2.2.2.2.2, *]
     .have y:GF e.l h b=(GR,[],b.2.2):=by unfold GF;grind
      rw[y];refine FN B B (e:=.AC [.S o7,.sn,.n b.2.2]) (c:=xk.set a (.I 7 o7)) (U ?_) (h:=xk.set a (.I 7 o7)) B;rw[xo];grind
    .rw[Af s]at n;cases n
     unfold GF;rw[Ad Om,Ad xa,Af s];refine FN B B (e:=.AC [.S o7,.sn,.n r.2]) (c:=M.set a (.I 7 o7)) (U ?_) (h:=M.set a (.I 7 o7)) B;rw[IK.2.2.2.2.1];simp only[↓Q,↓QT,Aic,s];grind
 .have y:GF i h b=(GR,[],DR i):=by unfold GF;grind
  rw[y];refine FN B B (e:=.AC [.S o7,.sn,.n (DR i)]) (c:=k.set a (.I 7 o7)) ?_ (h:=k.set a (.I 7 o7)) B;rw[IK.1];simp only[QY,W.H B, *]
def cH{o:C _}{b:Ah}(d:Dk o b):∀{c a:D},a<b.T.l->a<c->MW b c a=MW b (a+1) a
 |0,a,h,m=>by omega
 |c+1,a,h,m=>by
  rw[T7,T7];by_cases e:(b.at a).AN= -1;.grind
  .rw[Ad e,Ad e];let⟨j,r,p,q,s,g⟩:=(d.up a _ (Cu h)).resolve_left e
   have n:=g.lt;rw[g.AN,Aif];have k:=cH d (c:=c) (a:=j) (by omega) (by omega);have l:=cH d (c:=a) (a:=j) (by omega) n;rw[k,l]
variable{b c:D}{h:C Ab}
def ZJ(d:Dk h a)(j:b<a.T.l)(e:(a.at b).AN=c)(g:c<b):G6 a b=G6 a c++[⟨(a.at b).Ao,(a.at b).As⟩]:=by unfold G6;rw[T7,Ad (by grind),e,Aif,cH d (c:=b) (a:=c) (by omega) g,List.reverse_cons]
def ZI(c:(a.at b).AN= -1):G6 a b=[]:=by unfold G6;rw[T7,Af c];rfl
def le{c:C Ab}(b:D):(G6 a b).l<=b+1:=by unfold G6;rw[List.length_reverse];exact YX a _ _
def ld{F:C Ab}{a:Ah}(e:Bn F a):∀(k b c:D),b<k->b<a.T.l->c<a.T.l->G6 a b=G6 a c->b=c
 |0,b,c,x,_,_,_=>by omega
 |k+1,b,c,x,m,g,d=>by
  have n:=λ(p:D)(y:p<a.T.l)=>e.W.sh.DL p _ (Cu y);by_cases l:(a.at b).AN= -1
  .by_cases h:(a.at c).AN= -1;.rw[n b m l,n c g h]
   .let⟨r,E,u,G,f,t,o⟩:=e.up g h
    rw[ZI l,ZJ e.W.sh g f.AN f.lt]at d;exact A_ (Aij List.length d) (by rw[Aio];show 0≠_+1;omega)
  .let⟨q,z,H,I,j,s,w⟩:=e.up m l
   rw[ZJ e.W.sh m j.AN j.lt]at d;by_cases h:(a.at c).AN= -1;.rw[ZI h]at d;exact A_ (Aij List.length d) (by rw[Aio];show _+1≠0;omega)
   .let⟨r,E,u,G,f,t,o⟩:=e.up g h
    rw[ZJ e.W.sh g f.AN f.lt]at d;have d:=List.append_inj' d B;have i:=Aj5 d.2;have i:(a.at b).Ao=(a.at c).Ao/\(a.at b).As=(a.at c).As:=⟨Aij Bc.Ao i.1,Aij Bc.As i.1⟩;have v:=ld e k q r (by have:=j.lt;omega) w o d.1;subst v;refine e.W.IU c b q z ⟨g,f.AN,by rw[<-i.1];exact j.Ao⟩ s i.2
structure nq(e:AH->M)(g:C AH)(f:D)(a b:AP):Prop where
 AB:b.AB=a.AB
 A5:b.A5=a.A5
 AI:b.AI=a.AI
 A4:b.A4=a.A4
 Ep:∀c,BQ b c=BQ a c\/(BQ a c).Ai=0/\c<f/\∃d,g[c]? =A d/\BQ b c=e d/\(e d).Ai≠0
def Ace{a:AP}{b c:D}{d:M}:BQ {a with Ap:=a.Ap.set b d} c=if c=b/\b<a.Ap.l then d else BQ a c:=by unfold BQ;grind
def uV(b:AP)(d a:D)(c:M):BQ (ER b d c).1 a=BQ b a\/(BQ b a).Ai=0/\a=d/\BQ (ER b d c).1 a=c/\c.Ai≠0:=by
 unfold ER;split;.grind
 .rename_i e;rw[Ace];unfold BQ;grind
def iT(d:AH->M)(e:C AH)(a:AP):∀c,nq d e c a (C2 d e a c).1
 |0=>⟨B,B,B,B,λ_=>.i B⟩
 |c+1=>by
  have b:=iT d e a c;unfold C2;split
  .rename_i j k;have h:=(λa f g=>by unfold ER;grind:∀(a:AP) f g,(ER a f g).1.AB=a.AB/\(ER a f g).1.A5=a.A5/\(ER a f g).1.AI=a.AI/\(ER a f g).1.A4=a.A4) (C2 d e a c).1 c (d j)
   refine⟨h.1.t b.AB,h.2.1.t b.A5,h.2.2.1.t b.AI,h.2.2.2.t b.A4,λi=> ?_⟩;have:=b.Ep i;have:=uV (C2 d e a c).1 c i (d j);grind
  .refine⟨b.AB,b.A5,b.AI,b.A4,λi=> ?_⟩;have:=b.Ep i;grind
def YR{g:AH->M}{f:C AH}{c:AP}:∀{a:D},(C2 g f c a).2=Ac->(C2 g f c a).1=c/\∀d e,d<a->f[d]? =A e->(g e).Ai≠0->(BQ c d).Ai≠0
 |0,_=>⟨B,P⟩
 |a+1,b=>by
  unfold C2 at b⊢
  cases h:f[a]?with
  |none=>rw[h]at b;have i:=YR (a:=a) b;grind
  |some e=>
   rw[h]at b;simp only[AjB]at b;have i:=YR (a:=a) b.2;simp only[i.1]at b⊢;have k:=b.1;unfold ER at k⊢;by_cases l:(g e).Ai=0\/((c.Ap[a]?).g AK).Ai≠0
   .rw[Af l];refine⟨B,λd m o p n=> ?_⟩;by_cases j:d=a;.subst j;unfold BQ;grind
    grind
   grind
structure e5(e:D->M)(h:D)(g:BC)(f:D)(d c:AP):Prop where
 Ap:c.Ap=d.Ap
 AI:c.AI=d.AI
 A4:c.A4=d.A4
 FZ:∀b a,(BT c b a=BT d b a/\Bg c b a=Bg d b a)\/b=h/\a<f/\(BT d b a).is=Ac/\(e a).Ai≠0/\BT c b a=g/\Bg c b a=e a
def ov{a:AP}{g:M}{f:BC}(i:Fk a.AB b c)(j:Fk a.A5 b c):((CE a b c g f).1=a\/(BT a b c).is=Ac/\∀e d,(¬(e=b/\d=c)/\BT (CE a b c g f).1 e d=BT a e d/\Bg (CE a b c g f).1 e d=Bg a e d)\/e=b/\d=c/\BT (CE a b c g f).1 e d=f/\Bg (CE a b c g f).1 e d=g)/\(CE a b c g f).1.Ap=a.Ap/\(CE a b c g f).1.AI=a.AI/\(CE a b c g f).1.A4=a.A4:=by
 unfold CE;split;.grind
 .split;.grind
  .refine⟨.j ⟨P,λe d=> ?_⟩,B,B,B⟩;by_cases h:e=b/\d=c;.obtain⟨rfl,rfl⟩:=h;exact .j ⟨B,B,OS j,OS i⟩
   .exact .i ⟨h,I1 h,I1 h⟩
def aQ{h:D->M}{f:D}{e:BC}{d:AP}{j:D}(l:∀b,b<j->Fk d.AB f b)(m:∀b,b<j->Fk d.A5 f b):∀a,a<=j->e5 h f e a d (B7 h f e d a).1
 |0,_=>⟨B,B,B,λ_ _=>.i ⟨B,B⟩⟩
 |a+1,n=>by
  have c:=aQ (h:=h) (e:=e) l m a (by omega);have o:=(Ty h f e d a).1;have q:e5 h f e (a+1) d (B7 h f e d a).1:=⟨c.Ap,c.AI,c.A4,λk b=>by have:=c.FZ k b;grind⟩;unfold YtmnfpdedgnfeiaaGreat.B7;split;.exact q
  .rename_i r;have i:=ov (g:=h a) (f:=e) (MV o.AB (l a n)) (MV o.A5 (m a n));split;.omega
   .rcases i.1 with p|⟨p,t⟩;.grind
    .refine⟨i.2.1.t c.Ap,i.2.2.1.t c.AI,i.2.2.2.t c.A4,λk b=> ?_⟩;have s:=c.FZ k b;grind
def XV{c:D->M}{f:D}{e:BC}{d:AP}:∀{a:D},(B7 c f e d a).2.1=Ac->(B7 c f e d a).2.2=0->(B7 c f e d a).1=d/\∀i,i<a->(c i).Ai≠0->BT d f i=e
 |0,_,_=>⟨B,P⟩
 |a+1,b,g=>by
  unfold B7 at b g⊢;by_cases j:(B7 c f e d a).2.2≠0\/(c a).Ai=0;.rw[Af j]at b g⊢;have k:=XV b g;grind
  .rw[Ad j]at b g⊢;by_cases h:(CE (B7 c f e d a).1 f a (c a) e).2.2≠0;.grind
   .rw[Ad h]at b g⊢;simp only[AjB]at b;have k:=XV b.1 (by grind);simp only[k.1]at b h⊢;have l:=b.2;unfold CE at l h⊢;grind
def aP{e:D->M}{c:D}{f:BC}{d:AP}{i:D}(j:∀b,b<i->Fk d.AB c b)(k:∀b,b<i->Fk d.A5 c b):∀{a:D},a<=i->(B7 e c f d a).2.2≠0->∃b,b<a/\(e b).Ai≠0/\(BT d c b).is=L/\BT d c b≠f
 |0,_,h=>A_ B h
 |a+1,o,h=>by
  by_cases l:(B7 e c f d a).2.2≠0
  .let⟨b,p,q⟩:=aP j k (by omega) l
   grind
  .unfold B7 at h;by_cases m:(e a).Ai=0;.grind
   .rw[Ad P]at h;have n:BT (B7 e c f d a).1 c a=BT d c a:=by have:=(aQ (h:=e) (e:=f) j k a (by omega)).FZ c a;grind
    refine⟨a,by omega,m,?_⟩;unfold CE at h;grind
def Am(f:C Ab)(a:Ah)(b d e:D):M:=match(Nx f (a.at b) d)[e]?with|some c=>A9 (a.at b) c|none=>AK
def AL(d:C Ab)(a:Ah)(b c:D):AD:=((Ch d (a.at b)).Ay[c]?).g M6
def D5(a:C AG)(b:D):C M:=match a[b]?with|some c=>c.I|none=>[]
def DD(b:C AG)(c a:D):M:=((D5 b c)[a]?).g AK
def Ko(c:C AG)(a b:M):M:=
 if a.Ai=5 then a else if b.Ai=5 then b else if a.Ai=3 then D2 3 else if a.Ai≠4\/b.Ai≠1 then D2 5
 else if Dp c a b=Ac then D2 3 else FI c a b
def M9(c:C AG)(a:AD)(b:C M):M:=
 if a.op=4 then Iu a.Bk b else if a.op=7 then Cd b 0 else if a.op=13 then HI c (Cd b 0)else if a.op=14 then MS (Cd b 0)else KF a (Cd b 0)
def I0(a:M):Ak:=Au (a.Ai=1)&&BY a.n 0 100
def Dr(d:C Ab)(a:Ah)(b c:D):C M:=(AL d a b c).AT.m (A9 (a.at b))
structure Rp(d:C Ab)(h:D)(a:Ah)(b c:D):Prop where
 all:¬((AL d a b c).op=8\/(AL d a b c).op=9)->(AL d a b c).op≠6->∀e,e<(AL d a b c).AT.l->(Am d a b c e).Ai≠0
 EO:(AL d a b c).op=8\/(AL d a b c).op=9->(Am d a b c 0).Ai≠0/\((Am d a b c 0).Ai≠5->∃g,By a g b c/\(a.at g).As=0)/\((Am d a b c 0).Ai=5->∀e:D,(e:K)<C_ d (AL d a b c)->Bg (a.at b) c e=Am d a b c 0)
 store:(AL d a b c).op=11->Dp a.Ae (Am d a b c 0) (Am d a b c 1)=L->FI a.Ae (Am d a b c 0) (Am d a b c 1)=Am d a b c 2
 sw:(AL d a b c).op=5->∀e,Bg (a.at b) c e=if e=(D1 (Am d a b c 0) (Am d a b c 1)).1.n then(D1 (Am d a b c 0) (Am d a b c 1)).2 else AK
 AU:(AL d a b c).op=12->Bg (a.at b) c 0=Ko a.Ae (Am d a b c 0) (Am d a b c 1)
 alloc:(AL d a b c).op=10->(I0 (Am d a b c 0)=L->∃f:D,Bg (a.at b) c 0=DB f/\h<=f/\f<a.Ae.l/\(D5 a.Ae f).l=(Am d a b c 0).n.n)/\(I0 (Am d a b c 0)=Ac->Bg (a.at b) c 0=(C7 [] (Am d a b c 0)).2.1)
 QK:(AL d a b c).op=6->∃e,e<2/\(Am d a b c e).Ai≠0/\Bg (a.at b) c 0=Am d a b c e
 Q4:(AL d a b c).op=1\/(AL d a b c).op=2\/(AL d a b c).op=3\/(AL d a b c).op=4\/(AL d a b c).op=7\/(AL d a b c).op=13\/(AL d a b c).op=14->Bg (a.at b) c 0=M9 a.Ae (AL d a b c) (Dr d a b c)
structure Fl(b d:C AG):Prop where
 AX:b.l<=d.l
 BG:∀a,a<b.l->(D5 d a).l=(D5 b a).l
 Ms:∀a c,(DD b a c).Ai≠0->DD d a c=DD b a c
def Fl.refl(a:C AG):Fl a a:=⟨Om,Om,P⟩
def Vu{a:C AG}(d:(DD a b c).Ai≠0):b<a.l/\c<(D5 a b).l:=by
 unfold DD at d;have f:c<(D5 a b).l:=by
  rcases AiS c (D5 a b).l with e|e;.omega
  .rw[Aji e]at d;exact A_ B d
 refine⟨?_,f⟩;unfold D5 at f;grind
def Fl.AQ{e f g:C AG}(b:Fl e f)(c:Fl f g):Fl e g:=
 ⟨AiN b.AX c.AX,λa h=>(c.BG a (Aik h b.AX)).t (b.BG a h),λa d i=>(c.Ms a d (by rw[b.Ms a d i];omega)).t (b.Ms a d i)⟩
structure Mo(b c:Ah):Prop where
 AX:b.T.l<=c.T.l
 BG:∀a,a<b.T.l->D4 (b.at a) (c.at a)
 Av:∀a,a<b.T.l->HY (b.at a) (c.at a)
 nx:∀a,a<b.T.l->(b.at a).next≠-1->(c.at a).next=(b.at a).next
 fm:∀a d,a<b.T.l->0<BW (b.at a) d->0<BW (c.at a) d
 FZ:∀a d e,a<b.T.l->(BT (b.at a) d e).is=L->BT (c.at a) d e=BT (b.at a) d e
 Ae:Fl b.Ae c.Ae
def Mo.refl(a:Ah):Mo a a:=⟨Om,λ_ _=>D4.refl _,λ_ _=>HY.refl _,Om,Om,P,Fl.refl _⟩
def Mo.AQ{h i j:Ah}(c:Mo h i)(d:Mo i j):Mo h j where
 AX:=AiN c.AX d.AX
 BG:=λb a=>(c.BG b a).AQ (d.BG b (Aik a c.AX))
 Av:=λb a=>(c.Av b a).AQ (d.Av b (Aik a c.AX))
 nx:=λb a l=>by have g:=c.nx b a l;exact(d.nx b (Aik a c.AX) (by omega)).t g
 fm:=λb e a f=>d.fm b e (Aik a c.AX) (c.fm b e a f)
 FZ:=λb e k a f=>by have g:=c.FZ b e k a f;exact(d.FZ b e k (Aik a c.AX) (by grind)).t g
 Ae:=c.Ae.AQ d.Ae
variable{f:D}
def Mo.CX{c d:Ah}(b:Mo c d){a g:D}(i:By c a g f):By d a g f:=by obtain⟨e,j,k⟩:=i;have h:=b.BG a e;exact⟨Aik e b.AX,h.AN.t j,h.Ao.t k⟩
def Mo.As{b c:Ah}(d:Mo b c){a:D}(e:a<b.T.l):(c.at a).As=(b.at a).As:=(d.BG a e).As
variable{d:C Ab}
def Mo.BB{b c:Ah}(e:Mo b c){a:D}(f:a<b.T.l):Ch d (c.at a)=Ch d (b.at a):=TB (e.BG a f)
variable{e:C Ab}
def Mo.Ao{c:Ah}(f:Mo a c){d:D}(g:b<a.T.l):AL e c b d=AL e a b d:=by unfold AL;rw[f.BB g]
theorem I9(d:C Ab)(a:Ah)(b c:D):Nx d (a.at b) c=(AL d a b c).AT:=rfl
def Mo.Dv{b d:Ah}(e:Mo b d){a:D}(f:a<b.T.l){c:AH}(g:(A9 (b.at a) c).Ai≠0):A9 (d.at a) c=A9 (b.at a) c:=(e.Av a f).Dv g
def Mo.Am{h:Ah}(g:Mo a h){d:D}(i:b<a.T.l)(f:(Am e a b c d).Ai≠0):Am e h b c d=Am e a b c d:=by
 unfold YtmnfpdedgnfeiaaGreat.Am at*;rw[I9,I9,g.Ao i];rw[I9]at f;split;.rename_i k j;rw[j]at f;exact g.Dv i f
 grind
def Mo.Cm{f:Ah}(e:Mo a f)(g:b<a.T.l)(h:(DN d (a.at b) c).Ai≠0):DN d (f.at b) c=DN d (a.at b) c:=by
 unfold DN at*;rw[e.BB g];split;.rename_i j i;rw[i]at h;exact e.Dv g h
 grind
def Mo.EO{b e:Ah}(d:Mo b e){c:C Ab}{a:D}(f:a<b.T.l)(g:(B8 c (b.at a)).Ai≠0):B8 c (e.at a)=B8 c (b.at a):=m0 (d.BG a f) (d.Av a f) g
def Qg{b:C AG}{a:K}(c:0<=a):(Qf b a:K)=(D5 b a.n).l:=by unfold Qf D5 G_;grind
def KE{c:C AG}{a b:M}(d:0<=a.n):FI c a b=DD c a.n.n b.n.n:=by unfold FI DD D5 G_;grind
def Ow{b:C AG}{a:M}(c:BN b.l a)(d:a.Ai=4):0<=a.n/\a.n.n<b.l:=by unfold BN GP BY at c;grind
def Fl.FM{b e:C AG}(f:Fl b e){a c:M}(g:BN b.l a):Dp e a c=Dp b a c:=by
 unfold Dp;by_cases i:a.Ai=4
 .let⟨d,h⟩:=Ow g i
  rw[Qg d,Qg d,f.BG _ h]
 grind
def Fl.Cy{b e:C AG}(f:Fl b e){a c:M}(g:BN b.l a)(h:a.Ai=4)(i:(FI b a c).Ai≠0):FI e a c=FI b a c:=by
 let⟨d,j⟩:=Ow g h
 rw[KE d,KE d]at*;exact f.Ms _ _ i
def O2{d:C AG}{a b:M}(c:Dp d a b=L):a.Ai=4/\b.Ai=1:=by unfold Dp at c;grind
def Fl.EN{b c:C AG}(d:Fl b c){a:M}(f:BN b.l a):HI c a=HI b a:=by
 unfold HI;by_cases h:a.Ai=4
 .let⟨i,g⟩:=Ow f h
  have e:=d.BG _ g;unfold D5 at e;unfold G_;grind
 grind
def Nw{c:C Ab}(d:Bn c a)(b e f:D):BN a.Ae.l (Am c a b e f):=by
 unfold Am;split;.exact d.W.A9 b _
 .exact Hb _
def Nv(e:C Ab)(a:Ah)(b c d:D):Cd (Dr e a b c) d=Am e a b c d:=by unfold Cd Dr Am;rw[I9,AiL];grind
def Mo.Dr{h:Ah}(g:Mo a h)(i:b<a.T.l)(k:∀d,d<(AL e a b c).AT.l->(YtmnfpdedgnfeiaaGreat.Am e a b c d).Ai≠0):Dr e h b c=Dr e a b c:=by
 refine Ajc λd=> ?_
 unfold YtmnfpdedgnfeiaaGreat.Dr
 rw[g.Ao i,AiL,AiL]
 cases j:(AL e a b c).AT[d]?with
 |none=>rfl
 |some l=>have f:=(k d) P;unfold YtmnfpdedgnfeiaaGreat.Am at f;rw[I9,j]at f;show A _=A _;rw[g.Dv i f]
def ZL{c:C AG}{a b:M}(d:Dp c a b=L):Ko c a b=FI c a b:=by have:=O2 d;unfold Ko;grind
def Rp.up{x:D}{e m:Ah}(y:Bn d e)(g:Mo e m)(t:b<e.T.l)(h:Rp d x e b c)(v:¬((AL d e b c).op=8\/(AL d e b c).op=9)->(AL d e b c).op≠12->∀a,Bg (m.at b) c a=Bg (e.at b) c a)(S:(AL d e b c).op=12->Bg (m.at b) c 0=Ko m.Ae (Am d e b c 0) (Am d e b c 1))(s:∀a,a<3->(AL d e b c).op=5/\a<2\/(AL d e b c).op=10/\a<1\/(AL d e b c).op=11\/(AL d e b c).op=12/\a<2->a<(AL d e b c).AT.l):Rp d x m b c:=by
 have k:=g.Ao (e:=d) (d:=c) t;have G:∀a,(Am d e b c a).Ai≠0->Am d m b c a=Am d e b c a:=λa U=>g.Am t U;have p:=λo n a f=>G a (h.all o n a f);refine⟨?_,?_,?_,?_,?_,?_,?_,?_⟩;.rw[k];intro o n a f;rw[p o n a f];exact h.all o n a f
 .rw[k];intro o;let⟨N,xa,xb⟩:=h.EO o
  rw[G 0 N];refine⟨N,λq=> ?_,λq a f=> ?_⟩
  .let⟨P,w,T⟩:=xa q
   exact⟨P,g.CX w,(g.As w.1).t T⟩
  .have:=xb q a f;rw[(g.Av b t).Aw c a (by rw[this];omega),this]
 .rw[k];intro Q;have i:=λa f=>p (by omega) (by omega) a (s a f (by omega));rw[i 0 (by omega),i 1 (by omega),i 2 (by omega)];intro u;have H:=Nw y b c 0;rw[g.Ae.FM H]at u;have M:=h.store Q u;rw[g.Ae.Cy H (O2 u).1 (by rw[M];exact h.all (by omega) (by omega) 2 (s 2 (by omega) (by omega))),M]
 .rw[k];intro F a;have i:=λa f r=>p (by omega) (by omega) a (s a f (.i ⟨F,r⟩));rw[i 0 (by omega) (by omega),i 1 (by omega) (by omega),v (by omega) (by omega)];exact h.sw F a
 .rw[k];intro E;have i:=λa f r=>p (by omega) (by omega) a (s a f (.j (.j (.j ⟨E,r⟩))));rw[i 0 (by omega) (by omega),i 1 (by omega) (by omega)];exact S E
 .rw[k];intro z;rw[(λa f r=>p (by omega) (by omega) a (s a f (.j (.i ⟨z,r⟩)))) 0 (by omega) (by omega),v (by omega) (by omega)];let⟨V,W⟩:=h.alloc z
  refine⟨λq=> ?_,W⟩;let⟨I,X,Y,J,Z⟩:=V q
  exact⟨I,X,Y,Aik J g.Ae.AX,(g.Ae.BG I J).t Z⟩
 .rw[k];intro n;let⟨a,xc,xd,xe⟩:=h.QK n
  grind
 .rw[k];intro R;rw[v (by omega) (by omega),(g.Dr t λa f=>h.all (by omega) (by omega) a f:YtmnfpdedgnfeiaaGreat.Dr d m b c=YtmnfpdedgnfeiaaGreat.Dr d e b c),h.Q4 R];unfold M9;rw[g.Ae.EN (by rw[Nv];exact Nw y b c 0)]
structure ID(i:C Ab)(a c:Ah):Prop where
 mo:Mo a c
 Ae:c.Ae=a.Ae
 Aq:c.Aq=a.Aq
 AI:∀h d,h<a.T.l->BW (c.at h) d=BW (a.at h) d
 KO:∀h d,a.T.l<=h->BW (c.at h) d=0
 AB:∀h d b,h<a.T.l->Bg (c.at h) d b=Bg (a.at h) d b\/(BT (c.at h) d b).is=L/\∃e,By a e h d
 Wg:∀h d b,a.T.l<=h->(Bg (c.at h) d b).Ai=0/\(BT (c.at h) d b).is=Ac
 L4:∀b,BQ (c.at 0) b=BQ (a.at 0) b
 Ep:∀e f d,By c e f d->(c.at e).As=0->∀b,(BQ (c.at e) b).Ai≠0->By a e f d/\(BQ (c.at e) b=BQ (a.at e) b\/Am i a f d b=BQ (c.at e) b)
 L5:∀g e:D,g<c.T.l->(c.at g).next=(e:K)->∀b,(BQ (c.at e) b).Ai≠0->g<a.T.l/\((a.at g).next=(e:K)/\BQ (c.at e) b=BQ (a.at e) b\/∃j,(Ch i (a.at g)).A6[b]? =A j/\A9 (a.at g) j=BQ (c.at e) b)
 Zu:∀g e:D,g<c.T.l->(c.at g).next=(e:K)->g<a.T.l/\(B8 i (a.at g)).Ai≠0/\(B8 i (a.at g)).Ai≠5
 BS:∀f d b,(BT (c.at f) d b).is=L->BT (c.at f) d b=BT (a.at f) d b/\Bg (c.at f) d b=Bg (a.at f) d b\/(Bg (c.at f) d b).Ai≠0/\∃e,By a e f d/\(a.at e).As=(BT (c.at f) d b).As/\
  ((BT (c.at f) d b).next=Ac/\b<(Ch i (a.at e)).Bs.l/\Bg (c.at f) d b=DN i (a.at e) b\/(BT (c.at f) d b).next=L/\(B8 i (a.at e)).Ai=5/\Bg (c.at f) d b=B8 i (a.at e)/\(Ch i (a.at e)).A6.l≠0)
 E9:∀e,a.T.l<=e->e<c.T.l->∃g f d,By a g f d/\By c e f d/\(c.at e).As=(a.at g).As+1/\(B8 i (a.at g)).Ai≠0/\(B8 i (a.at g)).Ai≠5/\(Ch i (a.at g)).A6.l≠0
def ID.refl(h:C Ab)(j:Bn h a):ID h a a where
 mo:=Mo.refl a
 Ae:=B
 Aq:=B
 AI:=λ_ _ _=>B
 KO:=λl f d=>by rw[Nk d];rfl
 AB:=λ_ _ _ _=>P
 Wg:=λl f g d=>by rw[Nk d];exact⟨B,B⟩
 L4:=λ_=>B
 Ep:=λc o f i _ g _=>⟨i,P⟩
 L5:=λe c b k g _=>⟨b,P⟩
 Zu:=λe c b k=>⟨b,j.W.EO e b (by omega)⟩
 BS:=λ_ _ _ _=>P
 E9:=λc m n=>by omega
def ID.AM{b:Ah}(t:Bn h b){d:AP}(e:D_ b f d)(I:∀j o,(BT (b.at f) j o).is=L->BT d j o=BT (b.at f) j o)(z:d.AI=(b.at f).AI)(G:∀c a,Bg d c a=Bg (b.at f) c a\/(BT d c a).is=L/\∃g,By b g f c)(x:f=0->∀a,BQ d a=BQ (b.at 0) a)(H:∀n c,By b f n c->(b.at f).As=0->∀a,(BQ d a).Ai≠0->BQ d a=BQ (b.at f) a\/Am h b n c a=BQ d a)(F:∀k:D,k<b.T.l->(b.at k).next=(f:K)->∀a,(BQ d a).Ai≠0->BQ d a=BQ (b.at f) a\/∃q,(Ch h (b.at k)).A6[a]? =A q/\A9 (b.at k) q=BQ d a)(E:∀c a,(BT d c a).is=L->BT d c a=BT (b.at f) c a/\Bg d c a=Bg (b.at f) c a\/(Bg d c a).Ai≠0/\∃g,By b g f c/\(b.at g).As=(BT d c a).As/\
   ((BT d c a).next=Ac/\a<(Ch h (b.at g)).Bs.l/\Bg d c a=DN h (b.at g) a\/(BT d c a).next=L/\(B8 h (b.at g)).Ai=5/\Bg d c a=B8 h (b.at g)/\(Ch h (b.at g)).A6.l≠0)):ID h b (b.AM f d)where
 mo:={
  AX:=by rw[D0];omega
  BG:=λa i=>by
   rw[Ee e.hi];split;.rename_i l;subst l;exact e.BG
   .exact D4.refl _
  Av:=λa i=>by
   rw[Ee e.hi];split;.rename_i l;subst l;exact e.Av
   .exact HY.refl _
  nx:=λa i _=>e.A6 a
  fm:=λa j i r=>by
   rw[Ee e.hi];split;.rename_i l;subst l;exact e.fm j r
   omega
  FZ:=λa j o i r=>by rw[Ee e.hi];grind
  Ae:=Fl.refl _}
 Ae:=B
 Aq:=B
 AI:=λa c i=>by
  rw[Ee e.hi];split;.rename_i l;subst l;unfold BW;grind
  omega
 KO:=λa c i=>by rw[Nk (by rw[D0];omega)];rfl
 AB:=λa c j i=>by rw[Ee e.hi];grind
 Wg:=λa c j i=>by rw[Nk (by rw[D0];omega)];exact⟨B,B⟩
 L4:=λa=>by rw[Ee e.hi];grind
 Ep:=λg n c s v a=>by have w:=e.E9.1 s;rw[e.As]at v;rw[Ee e.hi];grind
 L5:=λk g m p a=>by rw[D0]at m;rw[e.A6]at p;rw[Ee e.hi];grind
 Zu:=λk g m p=>by rw[D0]at m;rw[e.A6]at p;exact⟨m,t.W.EO k m (by omega)⟩
 BS:=λn c a=>by rw[Ee e.hi];grind
 E9:=λg y u=>by rw[D0]at u;omega
def iN{l:C Ab}(o:Bn l a)(p:b<a.T.l){e:AH->M}(H:∀c,BN a.Ae.l (e c)){h:C AH}{j:D}(y:b≠0)(G:∀n m,By a b n m->(a.at b).As=0->∀(d:D)(c:AH),h[d]? =A c->Am l a n m d=e c)(F:∀k:D,k<a.T.l->(a.at k).next=(b:K)->∀(d:D)(c:AH),h[d]? =A c->(Ch l (a.at k)).A6[d]? =A c/\A9 (a.at k) c=e c):ID l a (a.AM b (C2 e h (a.at b) j).1):=by
 have i:=iT e h (a.at b) j;have N:∀f g,BT (C2 e h (a.at b) j).1 f g=BT (a.at b) f g:=λf g=>by unfold BT;rw[i.A5]
 have I:∀f g,Bg (C2 e h (a.at b) j).1 f g=Bg (a.at b) f g:=λf g=>by unfold Bg;rw[i.AB]
 refine ID.AM o ((D_.refl o.W p).C2 P j) P i.AI P Om (λn m x J d q=> ?_) (λk z E d q=> ?_) P;.rcases i.Ep d with r|⟨s,t,c,u,v,w⟩<;>grind
 .rcases i.Ep d with r|⟨s,t,c,u,v,w⟩<;>grind
def fx{f:C Ab}(z:Bj f){b:Ah}(p:Bn f b){e i:D}(P:c<b.T.l){F:Ab}{J:AD}(E:Gz f b c (b.at c) e i (b.at e) F J)(n:By b c e i)(G:e<b.T.l)(j:Ak){h:D->M}(H:∀a,BN b.Ae.l (h a)){o d:D}(x:d<=o)(v:∀a,a<o->Fk (b.at e).AB i a)(w:∀a,a<o->Fk (b.at e).A5 i a)(I:∀a,a<d->(h a).Ai≠0->j=Ac/\a<(Ch f (b.at c)).Bs.l/\h a=DN f (b.at c) a\/j=L/\(B8 f (b.at c)).Ai=5/\h a=B8 f (b.at c)/\(Ch f (b.at c)).A6.l≠0):ID f b (b.AM e (B7 h i ⟨(b.at c).As,j,L⟩ (b.at e) d).1):=by
 have k:=aQ (h:=h) (e:=⟨(b.at c).As,j,L⟩) v w d x;have r:∀a,BQ (B7 h i ⟨(b.at c).As,j,L⟩ (b.at e) d).1 a=BQ (b.at e) a:=λa=>by unfold BQ;rw[k.Ap]
 refine ID.AM p ((D_.refl p.W G).B7 (E.GA z p n j) H v w d x) (λa l q=> ?_) k.AI (λl a=> ?_) (λq d=> ?_) (λ_ _ _ _ d _=>.i (r d)) (λ_ _ _ d _=>.i (r d)) (λl a q=> ?_);.have:=k.FZ a l;grind
 .rcases k.FZ l a with s|⟨rfl,y,N,t,m,u⟩;.exact .i s.2
  .exact .j ⟨by rw[m],c,n⟩
 .subst q;exact r d
 .rcases k.FZ l a with s|⟨rfl,y,N,t,m,u⟩;.exact .i s
  .refine .j ⟨by rw[u];exact t,c,n,by rw[m],?_⟩;rw[m,u];exact I a y t
def n5{b:Ah}(a:Bn e b)(h:c<b.T.l)(q:(b.at c).AN≠-1):ID e b (Cl e b c).1:=by
 obtain⟨l,r,w,F,m,d,z⟩:=a.up h q;unfold Cl;simp only[];split;.exact ID.refl e a
 .rename_i E;have H:=a.W.sh.As c _ (Cu h);simp only[d.2.1,d.2.2,Aif];refine iN a h (λg=>a.W.A9 l g) (λx=>by have:=m.lt;omega) (λv s i G t g p=> ?_) (λn k y t g p=> ?_)
  .have f:v=l:=by have:=d.2.1;have:=i.2.1;omega
   have o:s=r:=by have:=d.2.2;have:=i.2.2;omega
   subst f;subst o;unfold Am;grind
  .obtain⟨u,j,_⟩:=a.next k (by omega);have f:u=c:=by have:=j.next;omega
   subst f;have:=j.As;have:=a.W.sh.As n _ (Cu k);omega
def rQ(i:Bj d)(c:Bn d a)(g:b<a.T.l)(m:(a.at b).AN≠-1):ID d a (Et d a b).1:=by
 obtain⟨w,t,s,v,j,f,n⟩:=c.up g m;obtain⟨u,l,e⟩:=c.W.sh.Bw b _ (Cu g);obtain⟨p,o,q,r,_⟩:=j.E_ i e;unfold Et;simp only[f.2.1,f.2.2,Aif,e.BB];refine fx i c g j f n Ac (o:=l.Bs.l) (λh=> ?_) (C6 _) (λh k=>⟨p,q,by omega⟩) (λh k=>⟨o,r,by omega⟩) (λh k _=>.i ⟨B,by rw[e.BB];omega,B⟩);unfold DN;split;.exact c.W.A9 b _
 .exact Hb _
def Aes{c:C Ab}(h:Bj c)(d:Bn c a)(f:b<a.T.l)(p:(a.at b).AN≠-1)(n:(B8 c (a.at b)).Ai=5)(o:(Ch c (a.at b)).A6.l≠0):ID c a (HU a b (B8 c (a.at b))).1:=by obtain⟨y,v,u,x,i,e,q⟩:=d.up f p;obtain⟨w,m,l⟩:=d.W.sh.Bw b _ (Cu f);obtain⟨s,r,k,t,_⟩:=i.E_ h l;unfold HU;simp only[e.2.1,e.2.2,Aif,k,Aiz];exact fx h d f i e q L (o:=m.Bs.l) (λg=>d.W.A9 b _) (by omega) (λg j=>⟨s,k,by omega⟩) (λg j=>⟨r,t,by omega⟩) (λg j _=>.j ⟨B,n,B,o⟩)
def Abw{i:C Ab}(d:Bn i a)(k:b<a.T.l)(c:L9 a b (a.at b) f (a.at f))(o:f<a.T.l)(p:(a.at b).AN≠-1):ID i a (Gp i a b).1:=by
 obtain⟨s,q,w,G,v,g,E⟩:=d.up k p;unfold Gp;simp only[c.next];have J:=d.W.sh.As b _ (Cu k);refine iN d o (λh=>d.W.A9 b h) (λy=>by have:=c.lt;omega) (λH F u I t h n=> ?_) (λl j z t h n=> ?_);.have:=c.As;omega
 .obtain⟨r,e,_⟩:=d.next j (by omega);have m:r=f:=by have:=e.next;omega
  subst m;have x:=d.W.IU b l s q g ⟨j,e.AN.s.t (c.AN.t g.2.1),e.Ao.s.t (c.Ao.t g.2.2)⟩ (by have:=c.As;have:=e.As;omega);grind
def kC(xg:Bj h){c:Ah}(u:Bn h c){d:D}(G:d<c.T.l)(xr:(c.at d).AN≠-1)(U:(B8 h (c.at d)).Ai≠0)(xm:(B8 h (c.at d)).Ai≠5)(xq:(Ch h (c.at d)).A6.l≠0):ID h c (Fh h c d).1/\((Fh h c d).2.2≠0->(Fh h c d).2.2=5/\c.T.l=400/\(c.at d).next= -1)/\((Fh h c d).2.1=Ac->(Fh h c d).2.2=0->(Fh h c d).1=c/\(c.at d).next≠-1):=by
 obtain⟨xa,V,xA,xG,S,xd,xD⟩:=u.up G xr;obtain⟨x,k,H⟩:=u.W.sh.Bw d _ (Cu G);unfold Fh;simp only[];by_cases T:(c.at d).next= -1
 .rw[Af T];by_cases xh:c.T.l=400
  .have xn:ED h c (c.at d).A4 (c.at d).AN (c.at d).Ao ((c.at d).As+1) (B8 h (c.at d))=(c,5):=by unfold ED;grind
   rw[xn,Af Om];exact⟨ID.refl h u,P,P⟩
  .have xo:ED h c (c.at d).A4 (c.at d).AN (c.at d).Ao ((c.at d).As+1) (B8 h (c.at d))=(⟨c.T++[{Dl h k x (c.at d).AN (c.at d).Ao ((c.at d).As+1)with Ap:=(Bv k.Ap.n AK).set 0 (B8 h (c.at d))}],c.Ae,c.round,c.Aq⟩,0):=by
    unfold ED;rw[Ad xh,H.ha,Aif,H.hb]
   rw[xo,Ad Om]
   refine⟨?_,P,P⟩
   have R:=xg.A4 x k H.hb
   have p:=Zq (n:=h) (a:=k) (j:=(x:K)) (i:=(c.at d).As+1) (c:=B8 h (c.at d)) (d:=c.Ae.l) S.AN S.Ao (u.W.A9 d _) U R.Ap.1
   have xi:∀e,(BQ {Dl h k x (c.at d).AN (c.at d).Ao ((c.at d).As+1)with Ap:=(Bv k.Ap.n AK).set 0 (B8 h (c.at d))} e).Ai≠0->e=0/\BQ {Dl h k x (c.at d).AN (c.at d).Ao ((c.at d).As+1)with Ap:=(Bv k.Ap.n AK).set 0 (B8 h (c.at d))} e=B8 h (c.at d):=λe o=>by
    unfold BQ at o⊢;show e=0/\((((Bv k.Ap.n AK).set 0 (B8 h (c.at d)))[e]?).g AK)=_;have o:((((Bv k.Ap.n AK).set 0 (B8 h (c.at d)))[e]?).g AK).Ai≠0:=o;by_cases f:e=0;.subst f;refine⟨B,?_⟩;rw[AiF (by rw[AjD];have:=R.Ap.1;omega)];rfl
    .rw[AiU (by omega),SV]at o;exact A_ B o
   have xj:({Dl h k x (c.at d).AN (c.at d).Ao ((c.at d).As+1)with Ap:=(Bv k.Ap.n AK).set 0 (B8 h (c.at d))}:AP).next= -1:=B
   generalize({Dl h k x (c.at d).AN (c.at d).Ao ((c.at d).As+1)with Ap:=(Bv k.Ap.n AK).set 0 (B8 h (c.at d))}:AP)=n at*
   have xu:(Ah.mk (c.T++[n]) c.Ae c.round c.Aq).T.l=c.T.l+1:=Aio
   have I:d<(Ah.mk (c.T++[n]) c.Ae c.round c.Aq).T.l:=by omega
   have M:∀e,e<c.T.l->e≠d->((Ah.mk (c.T++[n]) c.Ae c.round c.Aq).AM d {c.at d with next:=(c.T.l:K)}).at e=c.at e:=λe j f=>by rw[P8 I f,FG,Ad (by omega)]
   have Q:((Ah.mk (c.T++[n]) c.Ae c.round c.Aq).AM d {c.at d with next:=(c.T.l:K)}).at d={c.at d with next:=(c.T.l:K)}:=Hc I
   have y:((Ah.mk (c.T++[n]) c.Ae c.round c.Aq).AM d {c.at d with next:=(c.T.l:K)}).at c.T.l=n:=by rw[P8 I (by omega),FG,Af B]
   have s:∀{xz:Type}(E:AP->xz),(E {c.at d with next:=(c.T.l:K)}=E (c.at d))->∀e,e<c.T.l->E (((Ah.mk (c.T++[n]) c.Ae c.round c.Aq).AM d {c.at d with next:=(c.T.l:K)}).at e)=E (c.at e):=P
   have xF:((Ah.mk (c.T++[n]) c.Ae c.round c.Aq).AM d {c.at d with next:=(c.T.l:K)}).T.l=c.T.l+1:=by rw[D0,xu]
   have Y:((Ah.mk (c.T++[n]) c.Ae c.round c.Aq).AM d {c.at d with next:=(c.T.l:K)}).Ae=c.Ae:=B
   have xk:((Ah.mk (c.T++[n]) c.Ae c.round c.Aq).AM d {c.at d with next:=(c.T.l:K)}).Aq=c.Aq:=B
   generalize((Ah.mk (c.T++[n]) c.Ae c.round c.Aq).AM d {c.at d with next:=(c.T.l:K)})=z at*
   have J:∀e,c.T.l<=e->z.at e=n\/z.at e=Qi:=λe j=>by
    by_cases f:e=c.T.l;.grind
    .exact .j (Nk (by omega))
   have xt:∀{i q m:D},By z i q m->By c i q m\/i=c.T.l/\q=xa/\m=V:=λ{i q m} e=>by
    obtain⟨xE,W,X⟩:=e;by_cases f:i<c.T.l;.exact .i ⟨f,by grind,by grind⟩
    .have:i=c.T.l:=by omega
     subst this;rw[y]at W X;rw[p.AN]at W;rw[p.Ao]at X;omega
   have Z:∀g i:D,g<z.T.l->(z.at g).next=(i:K)->(g≠d/\g<c.T.l/\(c.at g).next=(i:K))\/g=d/\i=c.T.l:=λg i F r=>by
    by_cases f:g=d;.subst f;rw[Q]at r;have r:(c.T.l:K)=i:=r;exact .j ⟨B,by omega⟩
    .by_cases w:g<c.T.l;.rw[M g w f]at r;exact .i ⟨f,w,r⟩
     .have:g=c.T.l:=by omega
      subst this;rw[y,xj]at r;omega
   show ID h c z
   exact{
    mo:={
     AX:=by omega
     BG:=λe j=>by
      by_cases f:e=d;.subst f;rw[Q];exact⟨B,B,B,B,B,B,B,B⟩
      .rw[M e j f];exact D4.refl _
     Av:=λe j=>by
      by_cases f:e=d;.subst f;rw[Q];exact⟨λ_ _=>B,λ_ _ _=>B⟩
      .rw[M e j f];exact HY.refl _
     nx:=λe j xC=>by by_cases f:e=d<;>grind
     fm:=λe i j o=>by rw[s (λg=>BW g i) B e j];omega
     FZ:=λe i m j o=>s (λg=>BT g i m) B e j
     Ae:=by rw[Y];exact Fl.refl _}
    Ae:=Y
    Aq:=xk
    AI:=λe i j=>s (λg=>BW g i) B e j
    KO:=λe i j=>by
     rcases J e j with f|f<;>rw[f];.exact p.AI i
     .rfl
    AB:=λe i m j=>.i (s (λg=>Bg g i m) B e j)
    Wg:=λe i m j=>by
     rcases J e j with f|f<;>rw[f];.rw[p.Aw,p.FZ];exact⟨B,B⟩
     .exact⟨B,B⟩
    L4:=λe=>s (λg=>BQ g e) B 0 (by omega)
    Ep:=λi q m xe xw e j=>by
     rcases xt xe with f|⟨f,_,_⟩;.exact⟨f,.i (s (λg=>BQ g e) B i f.1)⟩
     .subst f;rw[y,p.As]at xw;have:=u.W.sh.As d _ (Cu G);omega
    L5:=λg i F r e j=>by
     rcases Z g i F r with⟨xv,w,xb⟩|⟨rfl,rfl⟩
     .have xp:=(u.next w (by omega));obtain⟨xc,xf,xs⟩:=xp;have:xc=i:=by have:=xf.next;omega
      subst this;exact⟨w,.i ⟨xb,s (λg=>BQ g e) B xc xs⟩⟩
     .rw[y]at j⊢;obtain⟨xx,xy⟩:=xi e j;subst xx;refine⟨G,.j ?_⟩;unfold B8 at xy;grind
    Zu:=λg i F r=>by
     rcases Z g i F r with⟨xv,w,xb⟩|⟨rfl,rfl⟩;.exact⟨w,u.W.EO g w (by omega)⟩
     omega
    BS:=λq m e o=>by
     rcases AiS q c.T.l with f|f;.exact .i ⟨s (λg=>BT g m e) B q f,s (λg=>Bg g m e) B q f⟩
     .rcases J q f with f|f<;>rw[f]at o;.rw[p.FZ]at o;cases o
      .cases o
    E9:=λi xB xl=>by
     have:i=c.T.l:=by omega
     subst this;exact⟨d,xa,V,xd,⟨xl,by rw[y];exact p.AN,by rw[y];exact p.Ao⟩,by rw[y];exact p.As,U,xm,xq⟩}
 .rw[Ad T];exact⟨ID.refl h u,P,P⟩
def Ti(c:C Ab)(a:Ah)(g:K):Prop:=
 g=5/\a.T.l=400/\(∃b e d,By a b e d/\(a.at b).next= -1/\(B8 c (a.at b)).Ai≠0/\(B8 c (a.at b)).Ai≠5/\(Ch c (a.at b)).A6.l≠0)\/
 g=6/\(∃b e d f h,By a b e d/\(BT (a.at e) d f).is=L/\BT (a.at e) d f≠h/\
  (h=⟨(a.at b).As,Ac,L⟩/\f<(Ch c (a.at b)).Bs.l/\(DN c (a.at b) f).Ai≠0\/h=⟨(a.at b).As,L,L⟩/\f<(Ch c (a.at b)).Bs.l/\(B8 c (a.at b)).Ai=5/\(Ch c (a.at b)).A6.l≠0))\/
 g=6/\∃i∈a.T,∃j∈(Ch c i).Ay,Gy i j=L
def aS(e:D->M)(d:D)(c:BC)(b:AP):∀a,(B7 e d c b a).2.2=0\/(B7 e d c b a).2.2=6
 |0=>.i B
 |a+1=>by
  have f:=aS e d c b a;have:=(λb=>by unfold CE;grind:∀b,(CE b d a (e a) c).2.2=0\/(CE b d a (e a) c).2.2=6) (B7 e d c b a).1
  unfold B7;grind
def rP{c:C Ab}(m:Bj c)(h:Bn c a)(j:b<a.T.l)(o:(a.at b).AN≠-1)(d:(Et c a b).2.2≠0):Ti c a (Et c a b).2.2:=by obtain⟨l,k,x,E,n,f,y⟩:=h.up j o;obtain⟨z,i,e⟩:=h.W.sh.Bw b _ (Cu j);obtain⟨r,q,s,t,_⟩:=n.E_ m e;unfold Et at d⊢;simp only[f.2.1,f.2.2,Aif,e.BB]at d⊢;obtain⟨g,F,u,v,w⟩:=aP (i:=i.Bs.l) (λg p=>⟨r,s,by omega⟩) (λg p=>⟨q,t,by omega⟩) Om d;exact .j (.i ⟨((aS (DN c (a.at b)) k ⟨(a.at b).As,Ac,L⟩ (a.at l) i.Bs.l).resolve_left d),b,l,k,g,_,f,v,w,.i ⟨B,by rw[e.BB];omega,u⟩⟩)
def Aer{c:C Ab}(n:Bj c)(h:Bn c a)(i:b<a.T.l)(s:(a.at b).AN≠-1)(q:(B8 c (a.at b)).Ai=5)(r:(Ch c (a.at b)).A6.l≠0)(d:(HU a b (B8 c (a.at b))).2.2≠0):Ti c a (HU a b (B8 c (a.at b))).2.2:=by obtain⟨l,j,y,F,o,e,z⟩:=h.up i s;obtain⟨E,p,g⟩:=h.W.sh.Bw b _ (Cu i);obtain⟨k,u,m,v,_⟩:=o.E_ n g;unfold HU at d⊢;simp only[e.2.1,e.2.2,Aif,m,Aiz]at d⊢;obtain⟨f,G,H,w,x⟩:=aP (i:=p.Bs.l) (λf t=>⟨k,m,by omega⟩) (λf t=>⟨u,v,by omega⟩) (by omega) d;exact .j (.i ⟨((aS _ j _ (a.at l) k.l).resolve_left d),b,l,j,f,_,e,w,x,.j ⟨B,by rw[g.BB];omega,q,r⟩⟩)
structure Tl(a:C Ab)(d:Ah->Prop):Prop where
 pr:Bj a
 C0:∀b c,Bn a b->Bn a c->ID a b c->d b->d c
structure Va(b:C Ab)(c:Ah->Prop)(d:Ah)(e:K):Prop where
 X:Bn b d
 q:c d
 bD:e≠0->∃a,Bn b a/\c a/\Ti b a e
def AbA{g:C Ab}{p:Ah->Prop}(d:Tl g p){b:Ah}(a:Bn g b)(j:p b)(f:c<b.T.l)(i:(b.at c).AN≠-1)(o:(Ch g (b.at c)).A6.l≠0):Va g p (EM g b c).1 (EM g b c).2.2:=by
 obtain⟨z,y,I,T,v,u,Q⟩:=a.up f i;obtain⟨S,J,t⟩:=a.W.sh.Bw c _ (Cu f);have e:=kD d.pr a f i;unfold EM at e⊢;simp only[]at e⊢;by_cases l:(B8 g (b.at c)).Ai=0;.rw[Af l];exact⟨a,j,λn=>A_ B n⟩
 .rw[Ad l]at e⊢;by_cases h:(B8 g (b.at c)).Ai=5;.rw[Af h]at e⊢;exact⟨e,d.C0 _ _ a e (Aes d.pr a f i h o) j,λn=>⟨b,a,j,Aer d.pr a f i h o n⟩⟩
  .rw[Ad h]at e⊢;have m:=kC d.pr a f i l h o;have k:=Zt d.pr a f i l h;by_cases r:(Fh g b c).2.2≠0;.rw[Af r];obtain⟨F,G,H⟩:=m.2.1 r;exact⟨k,d.C0 _ _ a k m.1 j,λn=>⟨b,a,j,.i ⟨F,G,c,z,y,u,H,l,h,o⟩⟩⟩
   .rw[Ad r]at e⊢;have E:=d.C0 _ _ a k m.1 j;obtain⟨M,R,N,s,q⟩:=(Wz d.pr a.W.sh (Cu f) v t).2.2 (by omega);have w:=DM s;have x:=DM q.Cp;subst w;subst x;exact⟨e,d.C0 _ _ k e (Abw k (Aid.1 s).1 q (Aid.1 q.Cp).1 (by rw[(m.1.mo.BG c f).AN];omega)) E,P⟩
def u0{b:C Ab}{m:Ah->Prop}(d:Tl b m){c:Ah}(g:Bn b c)(s:m c){a:D}(i:a<c.T.l):Va b m (Eb b c a).1 (Eb b c a).2.2:=by
 unfold Eb;simp only[];by_cases n:(c.at a).AN= -1;.rw[Af n];exact⟨g,s,P⟩
 .rw[Ad n];have j:=n5 g i n;have e:=XN (c:=b) g i;have u:=j.mo.BG a i;have f:=Aik i j.mo.AX;have o:((Cl b c a).1.at a).AN≠-1:=by rw[u.AN];omega
  have t:=d.C0 _ _ g e j s;have k:=rQ d.pr e f o;have h:=Yo d.pr e f o;have q:=d.C0 _ _ e h k t;have v:=k.mo.BG a f;by_cases p:(Et b (Cl b c a).1 a).2.2≠0;.rw[Af p];exact⟨h,q,λw=>⟨_,e,t,rP d.pr e f o p⟩⟩
  .rw[Ad p];by_cases r:(Ch b (c.at a)).A6.l=0;.rw[Af r];exact⟨h,q,P⟩
   .rw[Ad r];exact AbA d h q (Aik f k.mo.AX) (by rw[v.AN];omega) (by rw[TB v,TB u];omega)
def la{b:C Ab}{d:Ah->Prop}(e:Tl b d){c:Ah}(f:Bn b c)(h:d c):∀a,Va b d (Cb b c a).1 (Cb b c a).2.2
 |0=>⟨f,h,λj=>A_ B j⟩
 |a+1=>by
  have g:=la e f h a;rw[PB];by_cases i:(Cb b c a).2.2≠0\/¬a<(Cb b c a).1.T.l;.grind
  .rw[Ad i];exact u0 e g.X g.q (by omega)
def i2{d:C Ab}{e:Ah->Prop}(g:Tl d e){h:D}:∀{i:D}{b:Ah}{c:Ah×K},Bn d b->e b->He d h i b=A c->Va d e c.1 c.2
 |0,b,c,_,_,a=>by cases a
 |i+1,b,c,j,k,a=>by
  have f:=la g j k h;unfold He at a;split at a;.grind
  .split at a;.exact i2 g f.X f.q a
   grind
def YV{c:C Ab}{h:Ah->Prop}(m:Tl c h){j k:D}{f:Ah}{g:Ah×K}(n:Bn c f)(p:h f)(b:Hf c j k f=A g):Va c h g.1 g.2:=by
 unfold Hf at b
 cases i:He c j k f with
 |none=>grind
 |some a=>
  rw[i]at b;have e:=i2 m n p i;have b:A (if a.2≠0 then a else(a.1,LY c a.1))=A g:=b;by_cases d:a.2≠0;.grind
  .rw[Ad d]at b;cases b;refine⟨e.X,e.q,λb=>⟨a.1,e.X,e.q,?_⟩⟩;unfold LY at(b:LY c a.1≠0)⊢;by_cases l:(a.1.T.any λd=>(Ch c d).Ay.any (Gy d))=L;.rw[Af l];obtain⟨d,q,o⟩:=Ajv.1 l;obtain⟨_⟩:=Ajv.1 o;exact .j P
   grind
structure K0(f:C Ab)(a:Ah):Prop where
 args:∀b e d,By a b e d->(a.at b).As=0->∀c,(Am f a e d c).Ai≠0->(BQ (a.at b) c).Ai≠0
 Bs:∀b e d,By a b e d->∀c,c<(Ch f (a.at b)).Bs.l->(DN f (a.at b) c).Ai≠0->BT (a.at e) d c=⟨(a.at b).As,Ac,L⟩
 ag:∀b e d,By a b e d->(Ch f (a.at b)).A6.l≠0->(B8 f (a.at b)).Ai=5->∀c,c<(((a.at e).AB[d]?).g []).l->BT (a.at e) d c=⟨(a.at b).As,L,L⟩
 next:∀b e d,By a b e d->(Ch f (a.at b)).A6.l≠0->(B8 f (a.at b)).Ai≠0->(B8 f (a.at b)).Ai≠5->(a.at b).next≠-1/\∀c h,(Ch f (a.at b)).A6[c]? =A h->(A9 (a.at b) h).Ai≠0->(BQ (a.at (a.at b).next.n) c).Ai≠0
 QK:∀g∈a.T,∀i∈(Ch f g).Ay,Gy g i=Ac
def ZP(a:Ah)(c:b<a.T.l):a.AM b (a.at b)=a:=by
 have:a.T.set b (a.at b)=a.T:=by
  refine Ajc λd=> ?_;by_cases e:d=b;.subst e;rw[AiF c,Cu c]
  grind
 unfold Ah.AM;rw[this]
structure XC(f:C Ab)(a:Ah)(b:D):Prop where
 args:∀e d,By a b e d->(a.at b).As=0->∀c,(Am f a e d c).Ai≠0->(BQ (a.at b) c).Ai≠0
 Bs:∀e d,By a b e d->∀c,c<(Ch f (a.at b)).Bs.l->(DN f (a.at b) c).Ai≠0->BT (a.at e) d c=⟨(a.at b).As,Ac,L⟩
 ag:∀e d,By a b e d->(Ch f (a.at b)).A6.l≠0->(B8 f (a.at b)).Ai=5->∀c,c<(((a.at e).AB[d]?).g []).l->BT (a.at e) d c=⟨(a.at b).As,L,L⟩
 next:∀e d,By a b e d->(Ch f (a.at b)).A6.l≠0->(B8 f (a.at b)).Ai≠0->(B8 f (a.at b)).Ai≠5->(a.at b).next≠-1/\∀c g,(Ch f (a.at b)).A6[c]? =A g->(A9 (a.at b) g).Ai≠0->(BQ (a.at (a.at b).next.n) c).Ai≠0
def u2(I:Bj d)(o:Bn d a)(m:b<a.T.l)(c:(Eb d a b).2.1=Ac)(e:(Eb d a b).2.2=0):(Eb d a b).1=a/\XC d a b:=by
 unfold Eb at c e⊢;simp only[]at c e⊢;by_cases n:(a.at b).AN= -1
 .rw[Af n];have V:∀j i,¬By a b j i:=λj i g=>by have:=g.2.1;omega
  exact⟨B,P,P,P,P⟩
 .rw[Ad n]at c e⊢;obtain⟨j,i,T,U,S,g,x⟩:=o.up m n;have W:∀{z y},By a b z y->z=j/\y=i:=λu=>⟨by have:=g.2.1;have:=u.2.1;omega,by have:=g.2.2;have:=u.2.2;omega⟩;have k:(Cl d a b).2=Ac:=by grind
  have E:(Cl d a b).1=a/\((a.at b).As=0->∀f,(Am d a j i f).Ai≠0->(BQ (a.at b) f).Ai≠0):=by
   unfold Cl at k⊢;simp only[]at k⊢;by_cases N:(a.at b).As>0;.grind
   .rw[Ad N]at k⊢;simp only[g.2.1,g.2.2,Aif]at k⊢;have h:=YR k;refine⟨by rw[h.1];exact ZP a m,λ_ f t=> ?_⟩;unfold Am at t;split at t;.grind
    .exact A_ B t
  rw[E.1]at c e⊢;have p:¬(Et d a b).2.2≠0:=P;rw[Ad p]at c e⊢;have r:(Et d a b).2.1=Ac:=by grind
  have F:(Et d a b).1=a/\∀f,f<(Ch d (a.at b)).Bs.l->(DN d (a.at b) f).Ai≠0->BT (a.at j) i f=⟨(a.at b).As,Ac,L⟩:=by unfold Et at r p⊢;simp only[g.2.1,g.2.2,Aif]at r p⊢;have h:=XV r (by omega);exact⟨by rw[h.1];exact ZP a x,h.2⟩
  rw[F.1]at c e⊢;by_cases q:(Ch d (a.at b)).A6.l=0;.rw[Af q];refine⟨B,P,P,Om,Om⟩<;>grind
  .rw[Ad q]at c e⊢;simp only[AjB]at c;have c:=c.2;have G:(EM d a b).1=a/\((B8 d (a.at b)).Ai=5->∀f,f<(((a.at j).AB[i]?).g []).l->BT (a.at j) i f=⟨(a.at b).As,L,L⟩)/\((B8 d (a.at b)).Ai≠0->(B8 d (a.at b)).Ai≠5->(a.at b).next≠-1/\∀f l,(Ch d (a.at b)).A6[f]? =A l->(A9 (a.at b) l).Ai≠0->(BQ (a.at (a.at b).next.n) f).Ai≠0):=by
    unfold EM at c e⊢;simp only[]at c e⊢;by_cases v:(B8 d (a.at b)).Ai=0;.grind
    .rw[Ad v]at c e⊢;by_cases s:(B8 d (a.at b)).Ai=5;.rw[Af s]at c e⊢;unfold HU at c e⊢;simp only[g.2.1,g.2.2,Aif]at c e⊢;have h:=XV c e;exact⟨by rw[h.1];exact ZP a x,P,Om⟩
     .rw[Ad s]at c e⊢;by_cases R:(Fh d a b).2.2≠0;.grind
      .rw[Ad R]at c e⊢;simp only[AjB]at c;obtain⟨J,M⟩:=(kC I o m n v s q).2.2 c.2 (by omega);rw[J]at c⊢;obtain⟨X,H,Q⟩:=o.next m M;unfold Gp at c⊢;simp only[H.next,Aif]at c⊢;have h:=YR c.1;exact⟨by rw[h.1];exact ZP a Q,Om,λ_ _=>⟨by omega,λf l w=>h.2 f l (Aid.1 w).1 w⟩⟩
   refine⟨G.1,P,P,P,P⟩<;>grind
def dX{c:C Ab}(i:Bj c){a:Ah}(j:Bn c a):∀{b:D},(Cb c a b).2.1=Ac->(Cb c a b).2.2=0->(Cb c a b).1=a/\∀f,f<b->f<a.T.l->XC c a f
 |0,_,_=>⟨B,Om⟩
 |b+1,d,e=>by
  rw[PB]at d e⊢;by_cases h:(Cb c a b).2.2≠0\/¬b<(Cb c a b).1.T.l;.rw[Af h]at d e⊢;have g:=dX i j d e;refine⟨g.1,λf m k=>g.2 f ?_ k⟩;rw[g.1]at h;omega
  .rw[Ad h]at d e⊢;simp only[AjB]at d;have g:=dX i j d.1 (by omega);rw[g.1]at d e h⊢;have l:=u2 i j (by omega) P e;grind
def i4{c:C Ab}(g:Bj c){e:D}(n:400<=e):∀{j:D}{d:Ah}{f:Ah×K},Bn c d->He c e j d=A f->f.2=0->∀b,b<f.1.T.l->XC c f.1 b
 |0,d,f,_,a,_=>by cases a
 |j+1,d,f,h,a,l=>by
  unfold He at a;split at a;.grind
  .rename_i o;split at a;.exact i4 g n (SN g h e) a l
   .rename_i p;cases a
    have i:=dX g h (b:=e) (by grind) (by omega);show∀b,b<(Cb c d e).1.T.l->XC c (Cb c d e).1 b;rw[i.1];exactλb m=>i.2 b (by have:=h.W.sh.AX;omega) m
def cE(o:Bj d){k l:D}(r:400<=k){j:Ah}{i:Ah×K}(p:Bn d j)(g:Hf d k l j=A i)(q:i.2=0):K0 d i.1:=by
 unfold Hf at g
 cases n:He d k l j with
 |none=>grind
 |some f=>
  rw[n]at g;have g:A (if f.2≠0 then f else(f.1,LY d f.1))=A i:=g;by_cases m:f.2≠0;.grind
  .rw[Ad m]at g;cases g;have h:=i4 o r p n (by omega);refine⟨λb e c a=>(h b a.1).args e c a,λb e c a=>(h b a.1).Bs e c a,λb e c a=>(h b a.1).ag e c a,λb e c a=>(h b a.1).next e c a,λm s l t=> ?_⟩;unfold LY at(q:LY d f.1=0);grind
def IA(d:C Ab)(a:Ah)(b c e:D):Prop:=b<a.T.l/\(AL d a b c).op=10/\0<BW (a.at b) c/\Bg (a.at b) c 0=DB e
def Wr(f:C Ab)(g:C AG)(a:Ah)(d e:D):Aj (D×D)->Prop
 |none=>(DD g d e).Ai≠0
 |some (b,c)=>b<a.T.l/\(AL f a b c).op=11/\0<BW (a.at b) c/\Am f a b c 0=DB d/\Am f a b c 1=Ed e/\d<a.Ae.l/\e<(D5 a.Ae d).l
structure JU(e:C Ab)(j:C AG)(r:C M)(a:Ah):Prop where
 F_:0<a.T.l
 DL:(a.at 0).AN= -1/\(a.at 0).A4=CO e G4
 L4:∀d,BQ (a.at 0) d=(r[d]?).g AK
 Ep:∀f h b,By a f h b->(a.at f).As=0->∀d,(BQ (a.at f) d).Ai≠0->Am e a h b d=BQ (a.at f) d
 L5:∀l f:D,l<a.T.l->(a.at l).next=(f:K)->∀d,(BQ (a.at f) d).Ai≠0->∃n,(Ch e (a.at l)).A6[d]? =A n/\A9 (a.at l) n=BQ (a.at f) d
 BS:∀h b d,(BT (a.at h) b d).is=L->∃f,By a f h b/\(a.at f).As=(BT (a.at h) b d).As/\
  ((BT (a.at h) b d).next=Ac/\d<(Ch e (a.at f)).Bs.l/\Bg (a.at h) b d=DN e (a.at f) d\/(BT (a.at h) b d).next=L/\(B8 e (a.at f)).Ai=5/\Bg (a.at h) b d=B8 e (a.at f)/\(Ch e (a.at f)).A6.l≠0)
 Ao:∀c b,c<a.T.l->0<BW (a.at c) b->Rp e j.l a c b
 Ae:Fl j a.Ae
 CC:∀g,j.l<=g->g<a.Ae.l->∃c b,IA e a c b g
 C3:∀c b o p g,IA e a c b g->IA e a o p g->c=o/\b=p
 wr:∀g d,(DD a.Ae g d).Ai≠0->∃i,Wr e j a g d i
 Lr:∀g d i q,Wr e j a g d i->Wr e j a g d q->i=q
 My:∀c b,c<a.T.l->(AL e a c b).op=12->0<BW (a.at c) b->Dp a.Ae (Am e a c b 0) (Am e a c b 1)=L->(FI a.Ae (Am e a c b 0) (Am e a c b 1)).Ai=0->
  ∃k,a.Ae[(Am e a c b 0).n.n]? =A k/\(⟨(Am e a c b 1).n,((1000*c+b:D):K)⟩:BU)∈k.AV
 GA:∀(g:D)(k:AG)(i:BU),a.Ae[g]? =A k->i∈k.AV->∃c b:D,c<a.T.l/\b<1000/\i.Cq=((1000*c+b:D):K)/\(AL e a c b).op=12/\0<BW (a.at c) b/\Am e a c b 0=DB g/\Am e a c b 1=Ed i.Cy
 Hu:∃m:C (D×D),m.Nodup/\(m.l:K)=a.Aq/\∀c b,(c,b)∈m↔c<a.T.l/\0<BW (a.at c) b
def dC(j:Bj d)(k:Bn d a)(m:b<a.T.l)(h:AL d a b c≠M6):∀e,e<3->(AL d a b c).op=5/\e<2\/(AL d a b c).op=10/\e<1\/(AL d a b c).op=11\/(AL d a b c).op=12/\e<2->e<(AL d a b c).AT.l:=by
 obtain⟨l,g,f⟩:=k.W.sh.Bw b _ (Cu m)
 unfold AL at h⊢
 rw[f.BB]at h⊢
 cases n:g.Ay[c]?with
 |none=>grind
 |some o=>have i:=((j.A4 l g f.hb).Ao c o n).AX;rw[Aiz];intro e q p;unfold FA at i;grind
def ZA{d:D}(b:(AL e a c d).op≠0):AL e a c d≠M6:=λf=>by rw[f]at b;exact b B
def TU{b:Ah}(k:Bn h b){d:D}(n:c<b.T.l)(m:0<BW (b.at c) d):∃g a e,DU h g a (b.at c)/\a.Ay[d]? =A e/\AL h b c d=e:=by
 obtain⟨g,a,f⟩:=k.W.sh.Bw c _ (Cu n);have o:d<a.Ay.l:=by rw[<-f.AI];unfold BW at m;grind
 obtain⟨e,j⟩:=Bo (b:=a.Ay) (a:=d) o;exact⟨g,a,e,f,j,by unfold AL;rw[f.BB,j];rfl⟩
def JU.AT{n:C AG}{h:C M}(i:Bj d)(j:Bn d a)(g:JU d n h a){e:D}(f:b<a.T.l)(k:0<BW (a.at b) e):∀c,c<3->(AL d a b e).op=5/\c<2\/(AL d a b e).op=10/\c<1\/(AL d a b e).op=11\/(AL d a b e).op=12/\c<2->(Am d a b e c).Ai≠0:=λc m l=>
 (g.Ao b e f k).all (by omega) (by omega) c (dC i j f (ZA (by omega)) c m l)
def vB{c:C Ab}(f:Bn c a){g d:D}(e:By a g d b):(AL c a d b).op=8\/(AL c a d b).op=9:=By.op f e
def JU.YU{m:C Ab}{E:C AG}{xg:C M}(S:Bj m){n w:Ah}(v:Bn m n)(xC:Bn m w)(e:ID m n w)(f:JU m E xg n):JU m E xg w:=by
 have b:=e.mo;have R:∀{c a},0<BW (w.at c) a->c<n.T.l:=λ{c a} g=>by
  rcases AiS c n.T.l with I|I;.omega
  .rw[e.KO c a I]at g;omega
 have xx:∀{c a},c<n.T.l->¬((AL m n c a).op=8\/(AL m n c a).op=9)->∀d,Bg (w.at c) a d=Bg (n.at c) a d:=λ{c a} o xp d=>by
  rcases e.AB c a d o with r|⟨_,s,k⟩;.omega
  .exact A_ (vB v k) xp
 have xD:∀{c a h},IA m w c a h->IA m n c a h:=λ{c a h} ⟨i,q,t,z⟩=>by have o:=R t;rw[b.Ao o]at q;exact⟨o,q,by rw[<-e.AI c a o];omega,by grind⟩
 have xF:∀{h d j},Wr m E w h d j->Wr m E n h d j:=λ{h d j} g=>by
  cases j with
  |none=>exact g
  |some j=>
   obtain⟨c,a⟩:=j;obtain⟨i,q,t,z,J,V,W⟩:=g;have o:=R t;rw[b.Ao o]at q;have x:0<BW (n.at c) a:=by rw[<-e.AI c a o];omega
   have Q:=f.AT S v o x;rw[e.Ae]at V W;exact⟨o,q,x,(b.Am o P).s.t z,(b.Am o (Q 1 (by omega) (by omega))).s.t J,V,W⟩
 have xG:∀{h d j},Wr m E n h d j->Wr m E w h d j:=λ{h d j} g=>by
  cases j with
  |none=>exact g
  |some j=>obtain⟨c,a⟩:=j;obtain⟨i,q,t,z,J,_⟩:=g;have Q:=f.AT S v i t;have y:=b.Am (e:=m) i (Q 1 (by omega) (by omega));exact⟨Aik i b.AX,by rw[b.Ao i];omega,b.fm c a i t,(b.Am (e:=m) i (Q 0 (by omega) (by omega))).t z,y.t J,by rw[e.Ae];omega,by rw[e.Ae];omega⟩
 exact{
  F_:=Aik f.F_ b.AX
  DL:=by rw[(b.BG 0 f.F_).AN,(b.BG 0 f.F_).A4];exact f.DL
  L4:=λd=>(e.L4 d).t (f.L4 d)
  Ep:=λs u a k xf d N=>by
   obtain⟨F,r⟩:=e.Ep s u a k xf d N;have xi:u<n.T.l:=by
    obtain⟨xw,xl,T,xE,xB,xm,xh⟩:=v.up F.1 (by rw[F.2.1];omega);have:xw=u:=by have:=F.2.1;have:=xm.2.1;omega
    omega
   rcases r with r|r;.have:=f.Ep s u a F (by rw[<-b.As F.1];omega) d (by grind);rw[b.Am xi (by grind),this,r]
   .rw[b.Am xi (by grind),r]
  L5:=λI s xd xq d N=>by
   obtain⟨X,r⟩:=e.L5 I s xd xq d N;rw[b.BB X];rcases r with⟨y,xe⟩|⟨xa,xb,xc⟩;.obtain⟨xa,xb,xc⟩:=f.L5 I s X y d (by grind);exact⟨xa,xb,by rw[b.Dv X (by grind),xc,xe]⟩
   .exact⟨xa,xb,by rw[b.Dv X (by grind),xc]⟩
  BS:=λu a d g=>by
   rcases e.BS u a d g with⟨y,xe⟩|⟨xv,s,k,xf,r⟩
   .rw[y]at g;obtain⟨s,k,xf,r⟩:=f.BS u a d g;have xv:(Bg (n.at u) a d).Ai≠0:=λxA=>by have:=((v.W.CX s u a k).2 d).1 xA;grind
    refine⟨s,b.CX k,by rw[b.As k.1,y];omega,?_⟩;rw[y,xe,b.BB k.1];rcases r with⟨G,H,Z⟩|⟨G,H,Z,xo⟩;.exact .i ⟨G,H,by rw[b.Cm k.1 (by grind)];omega⟩
    .rw[b.EO k.1 (by omega)];grind
   .refine⟨s,b.CX k,by rw[b.As k.1];omega,?_⟩;rw[b.BB k.1];rcases r with⟨G,H,Z⟩|⟨G,H,Z,xo⟩;.exact .i ⟨G,H,by rw[b.Cm k.1 (by grind)];omega⟩
    .rw[b.EO k.1 (by omega)];grind
  Ao:=λc a o g=>by have p:=R g;rw[e.AI c a p]at g;refine(f.Ao c a p g).up v b p P (λU=> ?_) (λd N xd=>dC S v p (ZA (by omega)) d N xd);rw[xx p (by omega),e.Ae];exact(f.Ao c a p g).AU U
  Ae:=by rw[e.Ae];exact f.Ae
  CC:=λh i q=>by rw[e.Ae]at q;obtain⟨c,a,i,q,t,z⟩:=f.CC h i q;exact⟨c,a,Aik i b.AX,by rw[b.Ao i];omega,b.fm c a i t,by grind⟩
  C3:=λc a xr xl h g xh=>f.C3 c a xr xl h P P
  wr:=λh d g=>by rw[e.Ae]at g;obtain⟨j,xk⟩:=f.wr h d g;grind
  Lr:=λh d j xz g xh=>f.Lr h d j xz P P
  My:=λc a o U x=>by have p:=R x;rw[e.AI c a p]at x;rw[b.Ao p]at U;have Q:=f.AT S v p x;rw[b.Am p P,b.Am p P,e.Ae];exact f.My c a p U x
  GA:=λh xy j xj xk=>by rw[e.Ae]at xj;obtain⟨c,a,i,q,t,z,J,V,W⟩:=f.GA h xy j xj xk;exact⟨c,a,Aik i b.AX,q,t,by rw[b.Ao i];omega,b.fm c a i J,by rw[b.Am i (by rw[V];exact(by omega:(4:Int)≠0))];omega,by rw[b.Am i (by rw[W];exact(by omega:(1:Int)≠0))];omega⟩
  Hu:=by obtain⟨xn,xs,xt,xu⟩:=f.Hu;refine⟨xn,xs,xt.t e.Aq.s,λc a=>(xu c a).trans ⟨λ⟨Y,T⟩=>⟨Aik Y b.AX,b.fm c a Y T⟩,λ⟨Y,T⟩=> ?_⟩⟩;have:=R T;exact⟨this,by rw[<-e.AI c a this];omega⟩}
