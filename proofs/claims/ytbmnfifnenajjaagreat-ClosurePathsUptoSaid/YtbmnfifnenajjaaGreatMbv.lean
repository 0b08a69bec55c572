/- Part of the proof. -/
import Derived.Test.YtbmnfifnenajjaaGreatRows
import Derived.ProofKit
import Derived.Test.YtbmnfifnenajjaaGreatMbq
set_option linter.all false
noncomputable section
open Option renaming some->A,none->O,bind->Option.b
open _root_ renaming rfl->B,List->C,Nat->D,Int->K,if_neg->Ad,if_pos->Af,Option->Ae,cond->Aj,decide_eq_true->A0,decide_eq_false->A2,absurd->BF
open Bool renaming true->L,false->Aa
open Decidable renaming decide->Ao
open Nat renaming le_refl->CK
open List renaming length->List.l,map->List.m,take->List.t,drop->List.d,flatMap->List.f
open Go.IntKind renaming i64->Go.IntKind.n
open Array renaming toList->Array.l,size->Array.z
open Eq renaming trans->Eq.t,symm->Eq.s
open Or renaming inl->Or.i,inr->Or.j
open Int renaming toNat->Int.n
namespace Go.Proofs.YtbmnfifnenajjaaGreat
open Go.Fg
theorem AgB(b d:C Bf)(x:b.l=d.l)(E:b.l<1000000000)(h:G):∀(n a:D),a+n=b.l->jj W9 61 2 [.n b.l,Z Bf.c b,Z Bf.c d,.n a] h=A (.b (Ao (b.d a=d.d a)),h)
 |0,a,s=>by
  have g:¬(a:K)<b.l:=by omega
  rw[Agt.2.2.2.1,Ad1 (by omega),Ad1 (by omega)];simp only[QY,g,Agt.2.2.1,Ad4]
 |n+1,a,s=>by
  have g:(a:K)<b.l:=by omega
  obtain⟨c,F,I⟩:=Ds (b:=b) (a:=a) (by omega);obtain⟨r,J,M⟩:=Ds (b:=d) (a:=a) (by omega);have o:=EZ (a:=Bf.c) (f:=2) (i:=.n) F B;have p:=EZ (a:=Bf.c) (f:=2) (i:=.n) J B;have q:∀c:Bf,A9 2 h [.pi c.c]=A (.S c.c):=λ_=>B;have N:=AgB b d x E h n (a+1) (by omega);have m:=nO c r;rw[Agt.2.2.2.1,I,M];by_cases j:c=r;.rw[A0 j]at m;simp only[QY,g,Agt.2.2.2.2.1,o,p,q,m,Agt.2.2.2.2.2,H (Bh (a:=a) (by omega)),Ad8,N];simp[j]
  .rw[A2 j]at m;simp only[QY,g,Agt.2.2.2.2.1,o,p,q,m,Aet];simp[j]
theorem AhP(a b:C Bf)(k:a.l<1000000000):AY 61 [Z Bf.c a,Z Bf.c b] (.b (Ao (a=b))):=Bu B B B ⟨G.Aq,by
 have i:=DF Bf.c a;have j:=DF Bf.c b;rw[Agt.1];by_cases g:a.l=b.l
 .have d:(a.l:K)=b.l:=by omega
  have c:=AgB a b g k G.Aq a.l 0 (by omega);have c:jj W9 61 2 [.n a.l,Z Bf.c a,Z Bf.c b,.n 0] G.Aq=_:=c;simp only[QY,i,j,d,Agt.2.1];rw[d]at c;exact c
 .have d:¬(a.l:K)=b.l:=by omega
  have:¬a=b:=λe=>g (by rw[e]);simp only[QY,i,j,d,this,Ael]⟩
theorem AgE{n:D}{h a:G}{i:F}{g d:C Bf}(s:AY n [Z Bf.c g,Z Bf.c d] (.b (Ao (g=d))))(x:Aw a i Bf.c 2 g)(l:AH h a)(r:Dx h i):∃b,W9 (pos n) [i,Z Bf.c d] a=A (.b (Ao (g=d)),b)/\AH h b:=by
 let⟨b,q,m⟩:=BS.FV (t:=λo=>¬As i o) (BS.cons (Fs.Cs (a:=Bf.c) (g:=2) (λo k=>k) (λ_=>B) (λ_=>B) x) (BS.cons ((Fs.im (a:=Z Bf.c d) B).up (by omega)) (BS.nil 2 a))) (by omega)
 exact⟨b,s a _ b q,λp j=>⟨(m.o p (λk=>k (r p j))).t (l.M j),by rw[m.l];exact l.lv j⟩⟩
theorem Agx(a:Ci)(b:K)(h:G):∃g,Dp h (.AB [.S (Ci.c a),.n b])=A (.AB [.S (Ci.c a),.n b],g):=W7 (BS.cons ((Fs.S (a:=1) (BS.Oh (c:=h) (a:=Ci.c a) B)).up (by omega)) (BS.cons ((Fs.im (a:=.n b) B).up (by omega)) (BS.nil 5 _)))
def Agu:Ci:=⟨[],[]⟩
def Agg(a:AK)(f:AF):Ae N:=if f.Ax< -1 then O else H0 a f
def atS(e:Ai)(b:C Bf)(f:AF):D->D->Ae N
 |_,0=>O
 |a,c+1=>if FX e a=b then Agg (e.at a) f else atS e b f (a+1) c
def Agh(e:Ai):Ae N->Ci×K
 |none=>(Agu,7)
 |some a=>(GC e.Am [a],0)
def atR(a:Ai×K)(b:C Bf)(f:AF):Ci×K:=if a.2≠0 then(Agu,a.2)else Agh a.1 (atS a.1 b f 0 a.1.Ac.l)
theorem AgK{a:AK}{f:AF}{b:N}(h:H0 a f=A b):Bs a f=b:=by unfold Bs;rw[h];rfl
section
variable{t:CI} {y:T->Bm} {h:G} {e:Ai} {w:Lm} {f:AF} {v u:T} {z:C F}
theorem AgC(d:h.M u=A (.I 2 z)):∃a b,jj W9 22 1 [.p u 0] h=A (.AB [b,.n 7],a)/\∃g,Dp a (.AB [b,.n 7])=A (.AB [.S (Ci.c Agu),.n 7],g):=by have c:Cb [.sn,.sn] [] []=A (.S [.sn,.sn]):=B;have j:=Gb d (a:=[.sn,.sn]) B B;have i:(h.set u (.I 2 [.sn,.sn])).AL u 0 2=A [.sn,.sn]:=BB (by rw[AN,Af B]);refine⟨h.set u (.I 2 [.sn,.sn]),.S [.sn,.sn],?_,_,B⟩;rw[Agj.2.2.1];simp only[QY,c,j,i]
theorem Ah6(xj:BD t.l)(m:EB y h t.l t.es t.k t.x e w)(p:BY t.l e){i:D}{n:AK}(x:e.Ac[i]? =A n){a:N}(E:H0 n f=A a)(U:h.M v=A (.I 2 (AF.c f)))(V:h.M u=A (.I 2 z))(j:Lv h u):∃r G,jj W9 22 4 [.p t.x 0,.p (w.pc i) 0,.p v 0,.p u 0] h=A (.AB [G,.n 0],r)/\∃X,Dp r (.AB [G,.n 0])=A (.AB [.S (Ci.c (GC e.Am [a])),.n 0],X):=by
 have M:=p.W.Fj;have J:=m.BC i n x;have xh:h.AL t.x 3 1=A [w.mv]:=by rw[D1 m.M,Af (by omega),Ad (by omega)];rfl
 have T:Bl 3 [.p t.x 0]=A (.p t.x 3):=by rw[EG]
 let⟨b,xb,c⟩:=Nc J f E
 have q:=m.ext c;have xc:Aj (Bv (.ld 1) [.p t.x 3] b (.S [w.mv])) L Aa=L:=by rw[U7];rfl;rw[F5,D1 q.M,Af (by omega),Ad (by omega)];rfl
 have k:=AH.V b (.I 2 ([a].f N.c));have P:=q.ext k;have Y:∀I∈[a],Gt I e.Am.l=L:=λI Z=>by rw[AeW.1 Z,<-AgK E,<-DK x];exact p.W.Bs i f
 let⟨s,o,xi⟩:=qR M P.Am (u6 b a) (by simp) Y
 have R:As (.Z b.next 0 1 2 2) u:=EN λxa=>EX b (by rw[xa];exact c.lv j);have W:=(xi u (k.lv (c.lv j)) R).1.t ((k.M (c.lv j)).t ((c.M j).t V));have S:BU (Ci.c (GC e.Am [a]))=L:=B;have xe:=Gb W (a:=Ci.c (GC e.Am [a])) B S;have xd:(s.set u (.I 2 (Ci.c (GC e.Am [a])))).AL u 0 2=A (Ci.c (GC e.Am [a])):=BB (by rw[AN,Af B]);have xf:∀d g:F,CO 0 [.AB [d,g]]=A d:=λ_ _=>B;have xg:∀d g:F,CO 1 [.AB [d,g]]=A g:=λ_ _=>B;refine⟨s.set u (.I 2 (Ci.c (GC e.Am [a]))),.S (Ci.c (GC e.Am [a])),?_,Agx _ _ _⟩;have o:W9 (pos 62) [.S [w.mv],.Z b.next 0 1 2 2] (b.V (.I 2 ([a].f N.c)))=_:=o;rw[Agj.2.2.2.2.2.2.2];simp only[↓Q,↓QT,↓H T,↓H xh,↓BB U,↓H xb,↓Gn xc,↓H (jB b.next a),↓H o,↓H (xf _ _),↓H (xg _ _),↓H xe,↓H xd]
theorem AgA(xr:BD t.l)(xi:BY t.l e)(c:C Bf)(xI:e.Ac.l<1000000):∀(j a:D){h:G},a+j=e.Ac.l->EB y h t.l t.es t.k t.x e w->h.M v=A (.I 2 (AF.c f))->Lv h v->h.M u=A (.I 2 z)->Lv h u->∃g k,jj W9 22 2 [.n e.Ac.l,w.cv,Z Bf.c c,.n a,.p t.x 0,.p v 0,.p u 0] h=A (.AB [k,.n (Agh e (atS e c f a j)).2],g)/\∃Q,Dp g (.AB [k,.n (Agh e (atS e c f a j)).2])=A (.AB [.S (Ci.c (Agh e (atS e c f a j)).1),.n (Agh e (atS e c f a j)).2],Q)
 |0,a,h,xH,V,xx,xp,xl,xf=>by
  have W:¬(a:K)<e.Ac.l:=by omega
  let⟨g,k,xN,xd⟩:=AgC xl
  refine⟨g,k,?_,xd⟩;rw[Agj.2.2.2.1];simp only[QY,W,xN];rfl
 |j+1,a,h,xH,V,xx,xp,xl,xf=>by
  have W:(a:K)<e.Ac.l:=by omega
  let⟨b,S⟩:=Bb (b:=e.Ac) (a:=a) (by omega)
  let⟨xW,xz,xC⟩:=V.Lf S
  let⟨x0,xY,xd,xT,xE,xF⟩:=gi V xi.W.sh S
  have xZ:=va (c:=t.l) (a:=e) a;let⟨m,xe,x⟩:=AgE (AhP (FX e a) c (by omega)) xT xE xF
  have xj:=V.ext x;have xb:=(x.M xp).t xx;have xm:=(x.M xf).t xl;by_cases Y:FX e a=c
  .have xh:∀{n:R},jj W9 22 5 [.p t.x 0,.p (w.pc a) 0,.p v 0,.p u 0] m=n->jj W9 22 2 [.n e.Ac.l,w.cv,Z Bf.c c,.n a,.p t.x 0,.p v 0,.p u 0] h=n:=λ{n} xn=>by
    rw[A0 Y]at xe
    rw[Agj.2.2.2.1]
    simp only[QY,W,Agj.2.2.2.2.1,xz,xC,xd,xe,QB]
    exact xn
   have xk:atS e c f a (j+1)=Agg (e.at a) f:=by rw[show atS e c f a (j+1)=if _ then _ else _ from B,Af Y]
   rw[xk,DK S]
   have s:=xj.BC a b S
   have p:m.Ap v 0=A (.n f.Ax):=Ay xb 0
   have M:m.Ap v 1=A (.n f.AD):=Ay xb 1
   have X:m.Ap (w.pc a) 4=A (w.pv a):=Ay s.M 4
   have E:m.Ap (w.pc a) 5=A (w.ov a):=Ay s.M 5
   have xg:=Cp s.An
   have q:=Cp s.AG
   rw[Ad0]at q
   let⟨xJ,xU,xO,xP⟩:=AgC xm
   have T:Agg b f=O->jj W9 22 5 [.p t.x 0,.p (w.pc a) 0,.p v 0,.p u 0] m=jj W9 22 1 [.p u 0] m->∃g k,jj W9 22 2 [.n e.Ac.l,w.cv,Z Bf.c c,.n a,.p t.x 0,.p v 0,.p u 0] h=A (.AB [k,.n (Agh e (Agg b f)).2],g)/\∃Q,Dp g (.AB [k,.n (Agh e (Agg b f)).2])=A (.AB [.S (Ci.c (Agh e (Agg b f)).1),.n (Agh e (Agg b f)).2],Q):=λxo I=>by rw[xo];exact⟨xJ,xU,xh (I.t xO),xP⟩
   have xD:∀r,H0 b f=A r->jj W9 22 5 [.p t.x 0,.p (w.pc a) 0,.p v 0,.p u 0] m=jj W9 22 4 [.p t.x 0,.p (w.pc a) 0,.p v 0,.p u 0] m->¬f.Ax< -1->∃g k,jj W9 22 2 [.n e.Ac.l,w.cv,Z Bf.c c,.n a,.p t.x 0,.p v 0,.p u 0] h=A (.AB [k,.n (Agh e (Agg b f)).2],g)/\∃Q,Dp g (.AB [k,.n (Agh e (Agg b f)).2])=A (.AB [.S (Ci.c (Agh e (Agg b f)).1),.n (Agh e (Agg b f)).2],Q):=λr J I xG=>by
    let⟨xK,xV,xQ,xR⟩:=Ah6 xr xj xi S J xb xm (x.lv xf)
    have xo:Agg b f=A r:=by unfold Agg;rw[Ad xG];exact J
    rw[xo];exact⟨xK,xV,xh (I.t xQ),xR⟩
   have xX:Bl 0 [.p (w.pc a) 0]=A (.p (w.pc a) 0):=by rw[EG]
   have U:Agg b f=if f.Ax< -1 then O else if f.Ax<0 then(if 0<=f.AD then b.An[f.AD.n]?else O)else(if 0<=f.AD then(b.AG[f.Ax.n]?).b λxS=>xS[f.AD.n]?else O):=B
   by_cases d:f.Ax< -1
   .exact T (by rw[U,Af d]) (by rw[Agj.2.2.2.2.2.2.1];simp only[QY,p,d])
   by_cases F:f.Ax>=(b.AG.l:K)
   .exact T (by rw[U,Ad d,Ad (by omega),Af4 (by omega)];split<;>rfl) (by rw[Agj.2.2.2.2.2.2.1];simp only[QY,p,E,q,d,F])
   by_cases N:f.AD<0
   .exact T (by rw[U,Ad d,Ad (show¬0<=f.AD by omega),Ad (show¬0<=f.AD by omega)];split<;>rfl) (by rw[Agj.2.2.2.2.2.2.1];simp only[QY,p,M,E,q,d,F,N])
   by_cases xa:f.Ax= -1
   .have xu:A6 .lss [.n f.Ax,.n (-1)]=A (.b Aa):=by rw[D7,A2 d]
    have xv:A6 .eql [.n f.Ax,.n (-1)]=A (.b L):=by rw[Ch,A0 xa]
    have xw:A6 .neq [.n f.Ax,.n (-1)]=A (.b Aa):=by rw[DW,A0 xa];rfl
    by_cases P:f.AD>=(b.An.l:K);.exact T (by rw[U,Ad d,Af (by omega),Af (by omega)];exact Af4 (by omega)) (by rw[Agj.2.2.2.2.2.2.1];simp only[QY,p,M,X,E,xg,q,xu,xv,xw,F,N,P])
    .let⟨r,J⟩:=Bb (b:=b.An) (a:=f.AD.n) (by omega)
     exact xD r (by unfold H0;rw[Af (by omega),Af (by omega)];exact J) (by rw[Agj.2.2.2.2.2.2.1];simp only[QY,p,M,X,E,xg,q,xu,xv,xw,F,N,P]) d
   .let⟨xq,xc⟩:=Bb (b:=b.AG) (a:=f.Ax.n) (by omega)
    have I:=(AdN.1 xc).1;let⟨xt,xs⟩:=CD (f:=EE (w.og a)) (w:=1) (λ_=>B) s.AG (F9 I)
    have xy:AR 1 [w.ov a,.n f.Ax]=A (.p xt (f.Ax.n*1)):=by have:=xs.ia;rwa[show f.Ax.n=f.Ax by omega]at this
    have xB:m.Ap xt (f.Ax.n*1)=A (w.og a f.Ax.n):=by have:=xs.Ap (f:=EE (w.og a)) (λ_=>B) (F9 I) (b:=0) (by grind);exact this
    have xA:=Cp (s.AD _ xq xc).1;by_cases P:f.AD>=(xq.l:K);.exact T (by rw[U,Ad d,Ad (by omega),Af (by omega),xc];exact Af4 (by omega)) (by rw[Agj.2.2.2.2.2.2.1];simp only[QY,p,M,X,E,xg,q,xy,xB,xA,d,F,N,xa,P])
    .let⟨r,J⟩:=Bb (b:=xq) (a:=f.AD.n) (by omega)
     exact xD r (by unfold H0;rw[Ad (by omega),Af (by omega),xc];exact J) (by rw[Agj.2.2.2.2.2.2.1];simp only[QY,p,M,X,E,xg,q,xy,xB,xA,d,F,N,xa,P]) d
  .have xh:∀{n:R},jj W9 22 2 [.n e.Ac.l,w.cv,Z Bf.c c,.n (a+1:D),.p t.x 0,.p v 0,.p u 0] m=n->jj W9 22 2 [.n e.Ac.l,w.cv,Z Bf.c c,.n a,.p t.x 0,.p v 0,.p u 0] h=n:=λ{n} xn=>by
    rw[A2 Y]at xe
    rw[Agj.2.2.2.1]
    simp only[QY,W,Agj.2.2.2.2.1,xz,xC,xd,xe,QB,Agj.2.2.2.2.2.1,H (Bh (a:=a) (by omega))]
    exact xn
   have xk:atS e c f a (j+1)=atS e c f (a+1) j:=by rw[show atS e c f a (j+1)=if _ then _ else _ from B,Ad Y]
   rw[xk]
   let⟨g,k,xL,xM⟩:=AgA xr xi c xI j (a+1) (by omega) xj xb (x.lv xp) xm (x.lv xf)
   exact⟨g,k,xh xL,xM⟩
end
def AhZ{M:C Ab}(xv:Cl M){m xA J:D}(xw:m=400)(b:AQ)(xq:b.l.l<=2000000)(xr:b.BT.l<=2000000){a:Ai×K}(xa:Hr M m xA J b=A a):AY 21 [Z Ab.c M,.S (AQ.c b)] (.AB [Z SF (Tw a),.n a.2]):=by
 let⟨xc,E,xy,xu,xI,xp,xV,xW⟩:=box G.Aq (.I 2 (AQ.c b))
 have xH:∀(q:F->G->R),bl (.p G.Aq.next 0) (G.Aq.V (.I (Bq (F.I (.S (AQ.c b)))) (F.I (.S (AQ.c b))))) q=q (.p xc 0) E:=Dy G.Aq (.I 2 (AQ.c b)) xy xu;have xE:E.AL xc 0 2=A (AQ.c b):=BB xp;let⟨xZ,d,xb,xL,xJ,xl⟩:=qB xv xw b xq xr xa E (h:=λ_=>False) (λ_ xx=>xx.elim)
 have xg:∀r t:F,CO 0 [.AB [r,t]]=A r:=λ_ _=>B;have xh:∀r t:F,CO 1 [.AB [r,t]]=A t:=λ_ _=>B;by_cases l:a.2=0
 .obtain⟨k,xN,xt,rfl,xj,_⟩:=xl l;subst xt;let⟨xK,q⟩:=WZ (λz=>HU z) xa l
  have T:=q.X.W.sh;have xS:=T.A7;let⟨xX,U,x,xR⟩:=xj
  have xd:∀{X:G},AH d X->DX [U .Ac]=A (.n a.1.Ac.l)/\X.Ap k.x 1=A (U .Ac):=λP=>by have o:=Cp ((x.ext P).Db .Ac);rw[Ad0]at o;exact⟨o,(x.ext P).cv⟩
  let⟨⟨N,xf⟩,u,y,p,m⟩:=Dh (h:=a.1.Ac.l) (f:=λf g z=>jj W9 21 2 [.p k.x 0,.n f,g.2] z)
   (g:=λf g W=>PI d g.2 W g.1/\g.1.m (·.2)=(List.range f).m (FX a.1))
   (λf g W Y j=>by
    let⟨v,xY⟩:=g
    let⟨j,w⟩:=j
    simp only[]at j w⊢;have xM:=Cm Y;let⟨o,xe⟩:=xd j.E
    let⟨xC,xO,xT,xB,xi,xo⟩:=fH T (f+1) f (by omega) (x.ext j.E) Y
    have xQ:v.l=f:=by have:=AdW List.length w;rw[Ad9,Ad9,Ad0]at this;grind
    let⟨xG,xs,xU,xk⟩:=j.add xB xi xo (by omega)
    refine⟨(v++[(xC,FX a.1 f)],xG),xs,?_,xk,by show(v++[_]).m _=_;rw[Aes,w,AeX,Aes];rfl⟩;show jj W9 21 2 _ _=jj W9 21 2 _ _;rw[Ags.2.2.2.1];simp only[QY,Ags.2.2.2.2.1,Ags.2.2.2.2.2,H (Eg k.x),H (Bh (a:=f) (by omega)), *])
   (b:=([],.sn)) (a:=d) ⟨⟨Aw.sn d,λb xz=>(by grind),λb xz=>(by grind),AH.refl d,λxD _=>Cg xD⟩,B⟩
  have y:jj W9 21 2 [.p k.x 0,.n 0,.sn] d=jj W9 21 2 [.p k.x 0,.n a.1.Ac.l,xf] u:=y;have p:PI d xf u N:=p;have m:N.m (·.2)=VA a.1:=m;have xm:=CA a.1.Ac.l;let⟨o,xe⟩:=xd p.E
  have V:=p.fs;rw[m]at V;let⟨xP,xn⟩:=W7 (BS.cons (V.up (b:=5) (by omega)) (BS.cons ((Fs.im (t:=λ_=>True) (c:=u) (a:=.n 0) B).up (by omega)) (BS.nil 5 _)))
  unfold Tw;rw[Ad (λJ=>J l)];rw[l];rw[l]at xb;refine EV B B (c:=u) ?_ xn;rw[Ags.1];simp only[↓xH,↓Q,↓QT,↓H xE,↓H xb,↓H (xg _ _),↓H (xh _ _),Ags.2.1];rw[y,Ags.2.2.2.1];simp only[QY,H (Eg k.x),o,xe,xm,Ags.2.2.1]
 .have xF:Tw a=[]:=by unfold Tw;rw[Af l]
  rw[xF];refine EV B B (e:=.AB [.sn,.n a.2]) (c:=d) ?_ (h:=d) B;rw[Ags.1];simp only[QY,H (xg _ _),H (xh _ _), *]
theorem AgL{j:C Ab}(xy:Cl j){r T N:D}(xz:r=400)(c:AQ)(xt:c.l.l<=2000000)(xu:D3 c.l<=100000000)(k:C Bf)(f:AF){b:Ai×K}(q:Hr j r T N c=A b):AY 22 [Z Ab.c j,.S (AQ.c c),Z Bf.c k,.S (AF.c f)] (.AB [.S (Ci.c (atR b k f).1),.n (atR b k f).2]):=by
 have xm:∀u:CI,u.l=j->Li u->P5 u r (λe=>BD j/\G8 j e):=λu M xk=>by
  subst M;have i:=λE=>jx (c:=u) E r;exact{
   PQ:=λe a=>(i a.1).PQ e a.2
   Av:=λe a=>(i a.1).Av e a.2
   round:=λe a=>(i a.1).round e a.2
   Su:=λe a=>(i a.1).Su e a.2
   Th:=λe a=>(i a.1).Th e a.2
   Dj:=λe T b a xA h d=>⟨a.1,(i a.1).Dj e T b a.2 xA h d⟩}
 let⟨xf,d,xB,xv,xL,xp,xc,xR⟩:=box G.Aq (.I 2 (AQ.c c))
 have xI:∀(a:F->G->R),bl (.p G.Aq.next 0) (G.Aq.V (.I (Bq (F.I (.S (AQ.c c)))) (F.I (.S (AQ.c c))))) a=a (.p xf 0) d:=Dy G.Aq (.I 2 (AQ.c c)) xB xv;let⟨v,m,xC,xw,V,xq,xd,xS⟩:=box d (.I 2 (AF.c f))
 have xJ:∀(a:F->G->R),bl (.p d.next 0) (d.V (.I (Bq (F.I (.S (AF.c f)))) (F.I (.S (AF.c f))))) a=a (.p v 0) m:=Dy d (.I 2 (AF.c f)) xC xw;let⟨t,J,xD,xx,x,xs,xE,xT⟩:=box m (.I 2 [.sn,.sn])
 have xK:∀(a:F->G->R),bl (.p m.next 0) (m.V (.I 2 [.sn,.sn])) a=a (.p t 0) J:=Dy m _ xD xx;have xF:J.AL xf 0 2=A (AQ.c c):=BB ((x.M (V.lv xc)).t ((V.M xc).t xp));let⟨xY,n,xb,W,xM,xl⟩:=f9 xy xz c xt xu xm (λb q d=>by let⟨g,a⟩:=PL (λh=>HU h) q d;exact⟨HU g,a⟩) q J (g:=λU=>U=v\/U=t) (λU xa=>by
  rcases xa with rfl|rfl;.exact x.lv xd
  .exact xE)
 have xr:=(W v (.i B)).t ((x.M xd).t xq);have X:=(W t (.j B)).t xs;have xh:∀o p:F,CO 0 [.AB [o,p]]=A o:=λ_ _=>B;have xi:∀o p:F,CO 1 [.AB [o,p]]=A p:=λ_ _=>B;by_cases g:b.2=0
 .obtain⟨u,M,rfl,xk,xj⟩:=xl g;subst M;let⟨E,a⟩:=WZ (λh=>HU h) q g
  have xn:=a.X.W.sh;have xQ:=xn.A7;let⟨xU,y,xg,I,xa,Y⟩:=xj
  have xH:n.Ap u.x 2=A xg.cv:=Ay I.M 2;have xe:=Cp I.Ac;rw[Ad0]at xe;let⟨xO,xX,P,xP,xo⟩:=AgA E a.X k (by omega) b.1.Ac.l 0 (by omega) I xr (Y v (.i B)).1 X (Y t (.j B)).1
  have P:jj W9 22 2 [.n b.1.Ac.l,xg.cv,Z Bf.c k,.n 0,.p u.x 0,.p v 0,.p t 0] n=_:=P;unfold atR;rw[Ad (λN=>N g)];rw[g]at xb;refine EV B B ?_ xo;rw[Agj.1];simp only[↓xI,↓xJ,↓xK,↓Q,↓QT,↓H xF,↓H xb,↓H (xh _ _),↓H (xi _ _),Agj.2.1,↓H xH,↓H xe];exact P
 .have xG:atR b k f=(Agu,b.2):=by unfold atR;rw[Af g]
  rw[xG];have xN:Cb [.sn,.sn] [] []=A (.S [.sn,.sn]):=B;have xW:=Gb X (a:=[.sn,.sn]) B B;have xV:(n.set t (.I 2 [.sn,.sn])).AL t 0 2=A [.sn,.sn]:=BB (by rw[AN,Af B]);refine EV B B (e:=.AB [.S [.sn,.sn],.n b.2]) (c:=n.set t (.I 2 [.sn,.sn])) ?_ (h:=n.set t (.I 2 [.sn,.sn])) B;rw[Agj.1];simp only[QY,H (xh _ _),H (xi _ _), *]
theorem AgF{R:C Ab}{e:Ai}(d:BY R e):∀(m a b:D),a<m->a<e.Ac.l->b<e.Ac.l->FX e a=FX e b->a=b
 |0,a,b,M,_,_,_=>by omega
 |m+1,a,b,M,o,i,c=>by
  have p:=λ(r:D)(N:r<e.Ac.l)=>d.W.sh.K_ r _ (Di N);by_cases n:(e.at a).AP= -1
  .by_cases j:(e.at b).AP= -1;.rw[p a o n,p b i j]
   .let⟨E,Q,H,S,g,G,q⟩:=d.up i j
    rw[vb n,vc d.W.sh i g.AP g.lt]at c;exact BF (AdW List.length c) (by rw[AdY];show 0≠_+1;omega)
  .let⟨x,P,T,U,l,F,J⟩:=d.up o n
   rw[vc d.W.sh o l.AP l.lt]at c;by_cases j:(e.at b).AP= -1;.rw[vb j]at c;exact BF (AdW List.length c) (by rw[AdY];show _+1≠0;omega)
   .let⟨E,Q,H,S,g,G,q⟩:=d.up i j
    rw[vc d.W.sh i g.AP g.lt]at c;have c:=List.append_inj' c B;have k:=AfW c.2;have k:(e.at a).Ax=(e.at b).Ax/\(e.at a).Az=(e.at b).Az:=⟨AdW Bf.Ax k.1,AdW Bf.Az k.1⟩;have I:=AgF d m x E (by have:=l.lt;omega) J q c.1;subst I;refine d.W.KN b a x P ⟨i,g.AP,by rw[<-k.1];exact l.Ax⟩ F k.2
theorem Agw{l:C Ab}{e:Ai}(g:BY l e){d:C Bf}(f:AF){c:D}(i:c<e.Ac.l)(j:FX e c=d):∀(b a:D),a+b=e.Ac.l->c<a->atS e d f a b=O
 |0,_,_,_=>rfl
 |b+1,a,m,h=>by
  rw[show atS e d f a (b+1)=if _ then _ else _ from B,Ad λk=>by have:=AgF g (a+1) a c (by omega) (by omega) i (k.t j.s);omega]
  exact Agw g f i j b (a+1) (by omega) (by omega)
section
variable{u:EC} {y:T->Bm} {h:G} {e:Ai} {s:C (C (C K))} {w:Bm->F} {f:AF} {v t:T} {z:C F}
theorem Ah7(q:BY u.l e)(n:BZ y h u.l u.x e s 0 w){i:D}(R:i<e.Ac.l){a:N}(G:H0 (e.at i) f=A a)(P:h.M t=A (.I 2 z))(H:Lv h t)(xa:y t=.C5):∃b c E,W9 (pos 66) [.p u.x 0,.n i,.S (AF.c f)] h=A (.S (N.c a),b)/\W9 (pos 65) [.p u.x 0,.Z b.next 0 1 2 2] (b.V (.I 2 ([a].f N.c)))=A (.S (Ci.c (GC e.Am [a])),c)/\AX 2 c [.p t 0,.S (Ci.c (GC e.Am [a]))]=A (AC,E)/\E.AL t 0 2=A (Ci.c (GC e.Am [a])):=by
 have m:=q.W.Fj;let⟨b,V,g⟩:=UC n R f G
 have xb:=n.Vj g;have k:=AH.V b (.I 2 ([a].f N.c));have T:∀I∈[a],Gt I e.Am.l=L:=λI U=>by rw[AeW.1 U,<-AgK G];exact q.W.Bs i f
 have x:=pd e.Am m.ok [a] (by simp);rw[no m (by simp) T]at x;have r:Dx b (.Z b.next 0 1 2 2):=λxe S=>EN λp=>EX b (by rw[p];exact S);have j:=g.lv H;have M:=(n.ext g).Vj k;let⟨c,xf,W,xc,xd,J⟩:=qU (u:=λd=>d=t) M (λd o=>by subst o;exact⟨k.lv j,by rw[PD j];exact xa⟩) (u6 b a) (λd o=>by subst o;exact r _ j) m x (λd X=>Vk λp=>X (r d p))
 have Q:=(J t B).t ((k.M j).t ((g.M H).t P));have Z:=Gb Q (a:=Ci.c (GC e.Am [a])) B B;have Y:(c.set t (.I 2 (Ci.c (GC e.Am [a])))).AL t 0 2=A (Ci.c (GC e.Am [a])):=BB (by rw[AN,Af B]);exact⟨b,c,_,V,W,Z,Y⟩
theorem AhW(d:h.M t=A (.I 2 z)):∃a b,jj W9 23 1 [.p t 0] h=A (.AB [b,.n 7],a)/\∃g,Dp a (.AB [b,.n 7])=A (.AB [.S (Ci.c Agu),.n 7],g):=by have c:Cb [.sn,.sn] [] []=A (.S [.sn,.sn]):=B;have j:=Gb d (a:=[.sn,.sn]) B B;have i:(h.set t (.I 2 [.sn,.sn])).AL t 0 2=A [.sn,.sn]:=BB (by rw[AN,Af B]);refine⟨h.set t (.I 2 [.sn,.sn]),.S [.sn,.sn],?_,_,B⟩;rw[Agm.2.2.1];simp only[QY,c,j,i]
theorem Agv(xs:BD u.l)(I:BY u.l e)(d:C Bf)(xL:y t=.C5):∀(j c:D){h:G},c+j=e.Ac.l->BZ y h u.l u.x e s 0 w->h.M v=A (.I 2 (AF.c f))->Lv h v->h.M t=A (.I 2 z)->Lv h t->∃g k,jj W9 23 2 [Z Bf.c d,.p u.x 0,.p v 0,.n c,.p t 0] h=A (.AB [k,.n (Agh e (atS e d f c j)).2],g)/\∃xd,Dp g (.AB [k,.n (Agh e (atS e d f c j)).2])=A (.AB [.S (Ci.c (Agh e (atS e d f c j)).1),.n (Agh e (atS e d f c j)).2],xd)
 |0,c,h,yd,J,xS,xj,xF,W=>by
  have xu:¬(c:K)<e.Ac.l:=by omega
  let⟨g,k,yf,xz⟩:=AhW xF
  have X:=Cp (J.Db .Ac);rw[Ad0]at X;refine⟨g,k,?_,xz⟩;rw[Agm.2.2.2.1];simp only[QY,H (Eg u.x),J.cv,X,xu];exact yf
 |j+1,c,h,yd,J,xS,xj,xF,W=>by
  have yq:=I.W.sh.A7;have x:c<e.Ac.l:=by omega
  have xu:(c:K)<e.Ac.l:=by omega
  have X:=Cp (J.Db .Ac);rw[Ad0]at X;have x6:=J.cv;let⟨yu,yp,xz,yi,x8,ya⟩:=fH I.W.sh (c+1) c (by omega) J x
  have yt:=va (c:=u.l) (a:=e) c;let⟨S,xA,p⟩:=AgE (f8 (FX e c) d (by omega)) yi x8 ya
  have Y:=J.ext p;have xT:=(p.M xj).t xS;have xU:=(p.M W).t xF;have x1:∀{xI:G}{o:R},jj W9 23 2 [Z Bf.c d,.p u.x 0,.p v 0,.n (c+1:D),.p t 0] xI=o->jj W9 23 3 [.n c,Z Bf.c d,.p u.x 0,.p v 0,.p t 0] xI=o:=λ{xI o} xe=>by rw[Agm.2.2.2.2.2.1];simp only[QY,H (Bh (a:=c) (by omega))];exact xe
  by_cases xb:FX e c=d
  .have xC:∀{o:R},jj W9 23 4 [.n c,Z Bf.c d,.p u.x 0,.p v 0,.p t 0] S=o->jj W9 23 2 [Z Bf.c d,.p u.x 0,.p v 0,.n c,.p t 0] h=o:=λ{o} xe=>by
    rw[A0 xb]at xA
    rw[Agm.2.2.2.1]
    simp only[QY,H (Eg u.x),x6,X,xu,Agm.2.2.2.2.1,xz,xA,QB]
    exact xe
   have xE:atS e d f c (j+1)=Agg (e.at c) f:=by rw[show atS e d f c (j+1)=if _ then _ else _ from B,Af xb]
   rw[xE]
   let⟨yj,xg,xl⟩:=Y.Sh x
   have xn:=Y.cv
   let⟨x2,M,U,yc,P,xW,yr,ys⟩:=box S (.I 7 (DM w e c))
   let⟨xo,xm⟩:=EL S (b:=7) [.n 0,.n 0,.n 0,.n 0,.sn,.sn,.sn] (c:=DM w e c) U yc B (Si Y x)
   have Q:=Y.ext P
   have xx:=(P.M (p.lv xj)).t xT
   have xV:=(P.M (p.lv W)).t xU
   have xa:M.Ap v 0=A (.n f.Ax):=Ay xx 0
   have xt:M.Ap v 1=A (.n f.AD):=Ay xx 1
   have xO:M.AL v 0 2=A (AF.c f):=BB xx
   have xQ:M.Ap x2 4=A (w (.An c)):=Ay xW 4
   have xv:M.Ap x2 5=A (w (.AG c)):=Ay xW 5
   have xZ:=Cp (Q.Db (.An c) x)
   have xk:=Cp (Q.Db (.AG c) x)
   rw[Ad0]at xk
   let⟨yg,xP,xp⟩:=I.W.sh.BC c _ (Di x)
   have yo:=xp.An
   have yn:=xp.AG
   have xK:Agg (e.at c) f=O->jj W9 23 4 [.n c,Z Bf.c d,.p u.x 0,.p v 0,.p t 0] S=jj W9 23 3 [.n c,Z Bf.c d,.p u.x 0,.p v 0,.p t 0] M->∃g k,jj W9 23 2 [Z Bf.c d,.p u.x 0,.p v 0,.n c,.p t 0] h=A (.AB [k,.n (Agh e (Agg (e.at c) f)).2],g)/\∃xd,Dp g (.AB [k,.n (Agh e (Agg (e.at c) f)).2])=A (.AB [.S (Ci.c (Agh e (Agg (e.at c) f)).1),.n (Agh e (Agg (e.at c) f)).2],xd):=λxH xJ=>by
    let⟨g,k,q,r⟩:=Agv xs I d xL j (c+1) (by omega) Q xx (P.lv (p.lv xj)) xV (P.lv (p.lv W))
    rw[Agw I f x xb j (c+1) (by omega) (by omega)]at q r;rw[xH];exact⟨g,k,xC (xJ.t (x1 q)),r⟩
   have x7:∀m,H0 (e.at c) f=A m->¬f.Ax< -1->(∀{xG xX xf:G},W9 (pos 66) [.p u.x 0,.n c,.S (AF.c f)] M=A (.S (N.c m),xG)->W9 (pos 65) [.p u.x 0,.Z xG.next 0 1 2 2] (xG.V (.I 2 ([m].f N.c)))=A (.S (Ci.c (GC e.Am [m])),xX)->AX 2 xX [.p t 0,.S (Ci.c (GC e.Am [m]))]=A (AC,xf)->xf.AL t 0 2=A (Ci.c (GC e.Am [m]))->jj W9 23 4 [.n c,Z Bf.c d,.p u.x 0,.p v 0,.p t 0] S=A (.AB [.S (Ci.c (GC e.Am [m])),.n 0],xf))->∃g k,jj W9 23 2 [Z Bf.c d,.p u.x 0,.p v 0,.n c,.p t 0] h=A (.AB [k,.n (Agh e (Agg (e.at c) f)).2],g)/\∃xd,Dp g (.AB [k,.n (Agh e (Agg (e.at c) f)).2])=A (.AB [.S (Ci.c (Agh e (Agg (e.at c) f)).1),.n (Agh e (Agg (e.at c) f)).2],xd):=λm V yb xJ=>by
    let⟨_,_,xf,q,r,xh,xi⟩:=Ah7 I Q x V xV (P.lv (p.lv W)) xL
    have xH:Agg (e.at c) f=A m:=by unfold Agg;rw[Ad yb];exact V
    rw[xH];exact⟨xf,_,xC (xJ q r xh xi),Agx _ _ _⟩
   have xM:Agg (e.at c) f=if f.Ax< -1 then O else if f.Ax<0 then(if 0<=f.AD then(e.at c).An[f.AD.n]?else O)else(if 0<=f.AD then((e.at c).AG[f.Ax.n]?).b λyh=>yh[f.AD.n]?else O):=B
   have xN:=xs.Bc yg xP xp.hb
   have yk:=xN.An
   have xD:=xN.Av
   have x5:=FA (a:=(e.at c).An.l) (b:=1) (by omega) (by omega)
   have xB:=FA (a:=(e.at c).AG.l) (b:=1) (by omega) (by omega)
   have xq:=Lz f.AD 0 ((e.at c).An.l-1)
   have F:=Lz f.Ax 0 ((e.at c).AG.l-1)
   by_cases xw:f.Ax= -1
   .have xD:A6 .eql [.n f.Ax,.n (-1)]=A (.b L):=by rw[Ch,A0 xw]
    by_cases xc:0<=f.AD/\f.AD<=((e.at c).An.l:K)-1
    .let⟨m,V⟩:=Bb (b:=(e.at c).An) (a:=f.AD.n) (by omega)
     rw[show BK f.AD 0 ((e.at c).An.l-1)=L by unfold BK;rw[A0 xc.1,A0 xc.2];rfl]at xq;refine x7 m (by unfold H0;rw[Af (by omega),Af (by omega)];exact V) (by omega) λq r xh xi=> ?_;rw[Agm.2.2.2.2.2.2];simp only[QY,H (Eg u.x),xn,xg,xl,↓xo,U,xm,xa,xD,xt,xQ,xZ,x5,xq.H B,xO,q,jB,r,xh,xi]
    .rw[show BK f.AD 0 ((e.at c).An.l-1)=Aa by unfold BK;simp;omega]at xq;rw[show BK f.Ax 0 ((e.at c).AG.l-1)=Aa by unfold BK;simp;omega]at F;refine xK (by rw[xM,Ad (by omega),Af (by omega)];split;exact Af4 (by omega);rfl) ?_;rw[Agm.2.2.2.2.2.2];simp only[QY,H (Eg u.x),xn,xg,xl,↓xo,U,xm,xa,xD,xt,xQ,xv,xZ,xk,x5,xB,xq.H B,F.H B]
   .by_cases xR:0<=f.Ax/\f.Ax<=((e.at c).AG.l:K)-1
    .rw[show BK f.Ax 0 ((e.at c).AG.l-1)=L by unfold BK;rw[A0 xR.1,A0 xR.2];rfl]at F;let⟨E,T⟩:=Bb (b:=(e.at c).AG) (a:=f.Ax.n) (by omega)
     let⟨x9,xy,x3⟩:=Q.Ga x T
     have xy:AR 1 [w (.AG c),.n f.Ax]=A (.p x9 (f.Ax.n*1)):=by rwa[show(f.Ax.n:K)=f.Ax by omega]at xy
     have xY:=Cp (Q.Db (.AD c f.Ax.n) E T);let⟨x0,ye⟩:=Bb (b:=xP.Av) (a:=f.Ax.n) (by have:=(AdN.1 T).1;omega)
     have yl:=xp.AD _ x0 E ye T;have ym:=Rs xs x0;have x4:=FA (a:=E.l) (b:=1) (by omega) (by omega);have xr:=Lz f.AD 0 (E.l-1);by_cases xc:0<=f.AD/\f.AD<=(E.l:K)-1
     .let⟨m,V⟩:=Bb (b:=E) (a:=f.AD.n) (by omega)
      rw[show BK f.AD 0 (E.l-1)=L by unfold BK;rw[A0 xc.1,A0 xc.2];rfl]at xr;refine x7 m (by unfold H0;rw[Ad (by omega),Af (by omega),T];exact V) (by omega) λq r xh xi=> ?_;rw[Agm.2.2.2.2.2.2];simp only[QY,H (Eg u.x),xn,xg,xl,↓xo,U,xm,xa,xw,xt,xv,xk,xB,F.H B,xy,x3,xY,x4,xr.H B,xO,q,jB,r,xh,xi]
     .rw[show BK f.AD 0 (E.l-1)=Aa by unfold BK;simp;omega]at xr;refine xK (by rw[xM,Ad (by omega),Ad (by omega),T];split;exact Af4 (by omega);rfl) ?_;rw[Agm.2.2.2.2.2.2];simp only[QY,H (Eg u.x),xn,xg,xl,↓xo,U,xm,xa,xw,xt,xv,xk,xB,F.H B,xy,x3,xY,x4,xr.H B]
    .rw[show BK f.Ax 0 ((e.at c).AG.l-1)=Aa by unfold BK;simp;omega]at F;refine xK (by
      rw[xM];split;.rfl
      .rw[Ad (by omega),Af4 (by omega)];split<;>rfl) ?_
     rw[Agm.2.2.2.2.2.2];simp only[QY,H (Eg u.x),xn,xg,xl,↓xo,U,xm,xa,xw,xv,xk,xB,F.H B]
  .have xC:∀{o:R},jj W9 23 2 [Z Bf.c d,.p u.x 0,.p v 0,.n (c+1:D),.p t 0] S=o->jj W9 23 2 [Z Bf.c d,.p u.x 0,.p v 0,.n c,.p t 0] h=o:=λ{o} xe=>by
    rw[A2 xb]at xA
    rw[Agm.2.2.2.1]
    simp only[QY,H (Eg u.x),x6,X,xu,Agm.2.2.2.2.1,xz,xA,QB]
    exact x1 xe
   have xE:atS e d f c (j+1)=atS e d f (c+1) j:=by rw[show atS e d f c (j+1)=if _ then _ else _ from B,Ad xb]
   rw[xE]
   let⟨g,k,q,r⟩:=Agv xs I d xL j (c+1) (by omega) Y xT (p.lv xj) xU (p.lv W)
   exact⟨g,k,xC q,r⟩
end
theorem AgM{E:C Ab}(xp:Cl E){V xw r:D}(xq:V=400)(b:AQ)(xj:b.l.l<=2000000)(xk:b.BT.l<=2000000)(d:C Bf)(f:AF){c:Ai×K}(P:Hr E V xw r b=A c):AY 23 [Z Ab.c E,.S (AQ.c b),Z Bf.c d,.S (AF.c f)] (.AB [.S (Ci.c (atR c d f).1),.n (atR c d f).2]):=by
 let⟨W,i,xs,xm,xC,xf,T,xH⟩:=box G.Aq (.I 2 (AQ.c b))
 have xz:∀(a:F->G->R),bl (.p G.Aq.next 0) (G.Aq.V (.I (Bq (F.I (.S (AQ.c b)))) (F.I (.S (AQ.c b))))) a=a (.p W 0) i:=Dy G.Aq (.I 2 (AQ.c b)) xs xm;let⟨v,j,xt,xn,J,xg,U,xI⟩:=box i (.I 2 (AF.c f))
 have xA:∀(a:F->G->R),bl (.p i.next 0) (i.V (.I (Bq (F.I (.S (AF.c f)))) (F.I (.S (AF.c f))))) a=a (.p v 0) j:=Dy i (.I 2 (AF.c f)) xt xn;let⟨t,p,xu,xo,o,xi,xv,xJ⟩:=box j (.I 2 [.sn,.sn])
 have xB:∀(a:F->G->R),bl (.p j.next 0) (j.V (.I 2 [.sn,.sn])) a=a (.p t 0) p:=Dy j _ xu xo;have xx:p.AL W 0 2=A (AQ.c b):=BB ((o.M (J.lv T)).t ((J.M T).t xf));let⟨xN,n,S,M,xD,xb⟩:=qB xp xq b xj xk P p (h:=λI=>I=v\/I=t) (λI xr=>by
  rcases xr with rfl|rfl;.exact o.lv U
  .exact xv)
 have xh:=(M v (.i B)).t ((o.M U).t xg);have N:=(M t (.j B)).t xi;have X:∀k m:F,CO 0 [.AB [k,m]]=A k:=λ_ _=>B;have Y:∀k m:F,CO 1 [.AB [k,m]]=A m:=λ_ _=>B;by_cases g:c.2=0
 .obtain⟨u,s,xl,rfl,xa,_⟩:=xb g;subst xl;let⟨xc,a⟩:=WZ (λh=>HU h) P g
  let⟨y,w,xd,q⟩:=xa
  let⟨xF,xM,x,xG,xe⟩:=Agv xc a.X d (q t (.j B)).2 c.1.Ac.l 0 (by omega) xd xh (q v (.i B)).1 N (q t (.j B)).1
  have x:jj W9 23 2 [Z Bf.c d,.p u.x 0,.p v 0,.n 0,.p t 0] n=_:=x;unfold atR;rw[Ad (λr=>r g)];rw[g]at S;refine EV B B ?_ xe;rw[Agm.1];simp only[↓xz,↓xA,↓xB,↓Q,↓QT,↓H xx,↓H S,↓H (X _ _),↓H (Y _ _),Agm.2.1];exact x
 .have xy:atR c d f=(Agu,c.2):=by unfold atR;rw[Af g]
  rw[xy];have xE:Cb [.sn,.sn] [] []=A (.S [.sn,.sn]):=B;have xL:=Gb N (a:=[.sn,.sn]) B B;have xK:(n.set t (.I 2 [.sn,.sn])).AL t 0 2=A [.sn,.sn]:=BB (by rw[AN,Af B]);refine EV B B (e:=.AB [.S [.sn,.sn],.n c.2]) (c:=n.set t (.I 2 [.sn,.sn])) ?_ (h:=n.set t (.I 2 [.sn,.sn])) B;rw[Agm.1];simp only[QY,H (X _ _),H (Y _ _), *]
structure Agl where
 B4:C Bf
 AD:AF
def Agl.c(a:Agl):C F:=[Z Bf.c a.B4,.n a.AD.Ax,.n a.AD.AD]
def AgI(a:C (C Bf))(u:a.l<1000000000)(r:∀x∈a,x.l<1000000000)(j m c n o p:F)(e:G):∀(g b:D),b+g=a.l->jj W9 5 2 [Z SF a,Z SF a,.n b,j,m,c,n,o,p] e=jj W9 5 1 [j,m,c,n,o,p] e
 |0,b,t=>by
  have h:=DF SF a;have c:¬(b:K)<a.l:=by omega
  rw[kq5.2.2.2.2.1];simp only[QY,h,c]
 |g+1,b,t=>by
  have h:=DF SF a;have c:(b:K)<a.l:=by omega
  let⟨d,s⟩:=Bb (b:=a) (a:=b) (by omega)
  have v:=EZ (a:=SF) (f:=1) (i:=.n) s B;have w:AM e [.pi (SF d)]=A (Z Bf.c d):=B;have q:=f8 d d (r d (AdU s));rw[A0 B]at q;rw[kq5.2.2.2.2.1];simp only[QY,h,c,kq5.2.2.2.2.2.1,v,w,q.H B,QB,kq5.2.2.2.2.2.2,H (Bh (a:=b) (by omega))];exact AgI a u r _ _ _ _ _ _ e g (b+1) (by omega)
def Ah0{f:C Ab}{n o m:D}{p:AQ}{a:Ai×K}(b:Hr f n o m p=A a):(Tw a).l<=400/\∀d∈Tw a,d.l<=400:=by
 unfold Tw;split;.exact⟨AeA _,λd c=>by cases c⟩
 .rename_i h;let⟨q,g⟩:=WZ (λb=>HU b) b (AdS h)
  have j:=g.X.W.sh.A7;unfold VA;refine⟨by rw[Ad9,Ad0];exact j,λd c=> ?_⟩;obtain⟨k,i,rfl⟩:=Aeu.1 c;have:=AeU.1 i;have:=va (c:=f) (a:=a.1) k;omega
def Ah1{i:C Ab}{j k h:D}{n:AQ}{e:Ai×K}(d:Hr i j k h n=A e)(l:C Bf)(g:AF):∃c a,(atR e l g).1=⟨c,a⟩/\c.l<=1/\a.l<=10000000/\∀o∈a,o.l<=100:=by
 unfold atR;split;.exact⟨[],[],B,AeA _,AeA _,λa b=>by cases b⟩
 .rename_i a;let⟨p,f⟩:=WZ (λd=>HU d) d (AdS a)
  unfold Agh;split;.exact⟨[],[],B,AeA _,AeA _,λa b=>by cases b⟩
  .rename_i c _;refine⟨_,_,B,?_,?_,?_⟩;.show((Cf [c] []).1).l<=_;rw[TF];exact CK _
   .have:=ey (c:=e.1.Am) 401 0 [] (Cf [c] []).2;have:([]:C (C N)).l=0:=B;omega
   .exact ex f.X.W.Fj.ok 401 0 [] _ (λa b=>by cases b)
def AhT(U:AY 9 [] (.b L)){q:C Ab}{e:AQ}{a:Agl}(yd:IZ q)(xH:e.Cl)(yM:a.B4.l<1000000000):AY 5 [Z Ab.c q,.S (AQ.c e),.S (Agl.c a)] (.b L):=by
 let⟨xv,X,xR⟩:=g4 q e yd xH
 let⟨r,I,yg,x8,yJ,x0,xJ,yP⟩:=box G.Aq (.I 2 (AQ.c e))
 have xe:∀(z:F->G->R),bl (.p G.Aq.next 0) (G.Aq.V (.I (Bq (F.I (.S (AQ.c e)))) (F.I (.S (AQ.c e))))) z=z (.p r 0) I:=Dy G.Aq (.I 2 (AQ.c e)) yg x8;let⟨g,b,yh,x9,xy,E,xa,yQ⟩:=box I (.I 3 (Agl.c a))
 have xf:∀(z:F->G->R),bl (.p I.next 0) (I.V (.I (Bq (F.I (.S (Agl.c a)))) (F.I (.S (Agl.c a))))) z=z (.p g 0) b:=Dy I (.I 3 (Agl.c a)) yh x9;have xl:=(xy.M xJ).t x0;have P:b.AL r 0 2=A (AQ.c e):=BB xl;have xL:=DF Bf.c a.B4;have xS:b.Ap g 0=A (Z Bf.c a.B4):=Ay E 0;cases xv
 .refine Bu B B B ⟨b,?_⟩;rw[kq5.1];simp only[↓xe,↓xf,↓Q,↓QT,↓H P,↓X.H B,QB,↓U.H B]
 let⟨u,yN,i⟩:=xR B
 let⟨yv,xo⟩:=g5 u e (by have:=i.1;omega) (by have:=i.2.1;omega)
 cases yv
 .refine Bu B B B ⟨b,?_⟩;rw[kq5.1];simp only[↓xe,↓xf,↓Q,↓QT,↓H P,↓X.H B,↓xo.H B,QB,↓U.H B]
 by_cases xV:a.B4.l>(8:K);.refine Bu B B B ⟨b,?_⟩;rw[kq5.1];simp only[↓xe,↓xf,QY,P,X.H B,xo.H B,xS,xL,xV,QB,U.H B]
 obtain⟨xq,V⟩:∃xq:D,xq=400:=⟨_,B⟩;obtain⟨xb,ye⟩:∃xb:D,2000000<xb:=⟨2000001,by omega⟩;obtain⟨W,yc⟩:∃W:D,6000<W:=⟨6001,by omega⟩;let⟨xu,v⟩:=n_ (b:=q) (c:=xq) ye yc e
 have xP:=g7 q u;have xQ:=g8 e xH;have xg:=qz u V e (by have:=i.1;omega) (AaD i) v;have xh:=AhZ u V e (by have:=i.1;omega) (by have:=i.2.1;omega) v;have xi:=AgL u V e (by have:=i.1;omega) (AaD i) a.B4 a.AD v;have y:=AgM u V e (by have:=i.1;omega) (by have:=i.2.1;omega) a.B4 a.AD v;let⟨k,j,x7,yK,yL,xU⟩:=Ah1 v a.B4 a.AD
 have xA:=ge k k j j (by omega) (by omega) (λyG yi=>by have:=xU yG yi;omega);rw[A0 B,A0 B]at xA;let⟨yr,xM⟩:=Ah0 v
 rw[x7]at xi y;generalize(atR xu a.B4 a.AD).2=s at xi y;generalize Tw xu=N at xg xh yr xM;generalize xu.2=p at xg xh;let⟨xw,o,yj,yq,xC,xT⟩:=Tt (f:=Bf.c) (w:=2) (a:=a.B4) (j:=16) (λ_=>B) (λ_=>B) (Rw b Bf.c 2) (DG (by grind))
 have xI:∀h,Lv b h->o.M h=b.M h/\Lv o h/\As xw h:=λh x=>by
  have yp:b.next≠h:=λp=>by rw[<-p]at x;exact EX _ x
  have xp:Lv (b.V (.I 0 [])) h:=(AH.V b _).lv x;have xk:As (.Z b.next 0 0 1 2) h:=EN yp;exact⟨(xC.M xp xk).t ((AH.V b _).M x),xC.lv xp xk,xT h xp xk⟩
 let⟨t,xY,xB⟩:=BS.FV (t:=λxc=>¬As xw xc) (b:=o) (BS.cons ((Fs.im (a:=Z Ab.c q) B).up (by omega)) (BS.cons (Fs.S (a:=1) (BS.Oh (c:=o) (a:=AQ.c e) B)) (BS.cons (Fs.Cs (a:=Bf.c) (g:=2) (λxc xb=>xb) (λ_=>B) (λ_=>B) yq) (BS.cons (Fs.S (a:=1) (BS.Oh (c:=o) (a:=AF.c a.AD) B)) (BS.nil 2 o))))) (by omega)
 have xn:=xi o _ t xY;have Y:∀h,Lv b h->t.M h=b.M h/\Lv t h:=λh x=>by
  let⟨xx,yE,yF⟩:=xI h x
  exact⟨(xB.o h (λW=>W yF)).t xx,by rw[xB.l];exact yE⟩
 have xK:=xy.lv xJ;let⟨xr,J,xF,ya,xz,x4,yk,yR⟩:=box t (.I 2 (Hg k j))
 let⟨yH,yt⟩:=EL t (b:=2) [.sn,.sn] (c:=Hg k j) xF ya B B
 let⟨xt,M,xG,yb,xO,x5,yO,yS⟩:=box J (.I 2 (Hg k j))
 let⟨yI,yu⟩:=EL J (b:=2) [.sn,.sn] (c:=Hg k j) xG yb B B
 have x1:J.M r=A (.I 2 (AQ.c e)):=(xz.M (Y r xK).2).t ((Y r xK).1.t xl);have x3:J.M g=A (.I 3 (Agl.c a)):=(xz.M (Y g xa).2).t ((Y g xa).1.t E);have xd:∀{xm:G},xm.M g=A (.I 3 (Agl.c a))->xm.Ap g 0=A (Z Bf.c a.B4)/\xm.AL g 1 2=A (AF.c a.AD):=λxE=>⟨Ay xE 0,by rw[D1 xE];rfl⟩;have x6:(b.V (.I 0 [])).M g=A (.I 3 (Agl.c a)):=((AH.V b (.I 0 [])).M xa).t E;have x2:o.M g=A (.I 3 (Agl.c a)):=(xI g xa).1.t E;let⟨xN,yx⟩:=xd E
 let⟨yy,yz⟩:=xd x6
 let⟨yT,yA⟩:=xd x2
 let⟨yB,yC⟩:=xd x3
 have ys:J.AL r 0 2=A (AQ.c e):=BB x1;have xv:M.AL xr 0 2=A (Hg k j):=BB ((xO.M yk).t x4);have yw:M.AL xt 0 2=A (Hg k j):=BB x5;have yD:∀a T:F,CO 0 [.AB [a,T]]=A a:=λ_ _=>B;have xx:∀a T:F,CO 1 [.AB [a,T]]=A T:=λ_ _=>B;have yl:Aj (Bv (.ld 2) [.p r 0] b (.S (AQ.c e))) L Aa=L:=by rw[Mo xl];rfl
 have ym:Aj (Bv .Cq [.p g 0] b (Z Bf.c a.B4)) (Aj (Bv .Cq [.p g 0] b (Z Bf.c a.B4)) L Aa) Aa=L:=by rw[GL xN];rfl
 have yn:Aj (Bv (.ld 2) [.p g 1] (b.V (.I 0 [])) (.S (AF.c a.AD))) (Aj (Bv (.ld 2) [.p g 1] b (.S (AF.c a.AD))) (Aj (Bv (.ld 2) [.p g 1] b (.S (AF.c a.AD))) L Aa) Aa) Aa=L:=by rw[U7 (by rw[F5,yz];rfl),U7 (by rw[F5,yx];rfl)];rfl
 have xD:Bl 0 [.p g 0]=A (.p g 0):=by rw[EG]
 have xZ:Bl 1 [.p g 0]=A (.p g 1):=by rw[EG]
 have yo:=DF SF N;have xj:=AgI N (by omega) (λxc yf=>by have:=xM xc yf;omega) (.n p) (.n p) (.p xr 0) (.p xt 0) (.n s) (.n s) M N.l 0 (by omega);have xj:jj W9 5 2 [Z SF N,Z SF N,.n 0,.n p,.n p,.p xr 0,.p xt 0,.n s,.n s] M=_:=xj;have xX:p=p:=B;have xW:A6 .gtr [.n a.B4.l,.n 8]=A (.b Aa):=by rw[Ew,A2 (by omega)]
 have xn:W9 (pos 22) [Z Ab.c q,.S (AQ.c e),xw,.S (AF.c a.AD)] o=A (.AB [.S (Hg k j),.n s],t):=xn;have y:AY 23 [Z Ab.c q,.S (AQ.c e),Z Bf.c a.B4,.S (AF.c a.AD)] (.AB [.S (Hg k j),.n s]):=y;refine Bu B B B ⟨M,?_⟩;rw[kq5.1];simp only[↓xe,↓xf,↓Q,↓QT,↓H P,↓X.H B,↓xo.H B,QB,↓H xD,↓H xN,↓H xL,↓H xW];rw[kq5.2.1];simp only[↓Q,↓QT,↓xP.H B,↓H P,↓Gn yl,↓xQ.H B,↓xg.H B,↓H (yD _ _),↓H (xx _ _),↓xh.H B,↓H (NT 2 _),↓H xD,↓H yy,↓Gn ym,↓H yj,↓H xZ,↓H yA,↓Gn yn,↓H xn,↓yH,xF,↓H yt,↓H ys,↓H yB,↓H yC,↓y.H B,↓yI,xG,↓H yu,↓H yo,kq5.2.2.1];rw[xj,kq5.2.2.2.1];simp only[QY,xv,yw,xA.H B,U.H B,QB,xX]
def Ah4:DD Kb P9 93 Bf.c (λ_=>True):=(DD.struct Mz Tryz.underlying93 (d:=2) (by kernel_rfl) (.cons B (j:=1) (by kernel_rfl) VE (.cons B (j:=1) (by kernel_rfl) VE .nil))).Bn (λa=>⟨a.1,a.2.1⟩) (λ_=>B) (λ_ _=>Aeb)
def Ah3:DD Kb P9 52 (λa=>[Z Bf.c a]) (Rp λ_=>True):=DD.slice Mz Tryz.underlying52 (b:=2) (by kernel_rfl) (by decide) Ah4
def Aij:DD Kb P9 56 Agl.c (λb=>b.B4.l<1000000000):=
 (DD.struct Mz Tryz.underlying56 (d:=3) (by kernel_rfl) (.cons B (j:=1) (by kernel_rfl) Ah3 (.cons B (j:=2) (by kernel_rfl) wc .nil))).Bn (λa=>⟨a.1,a.2.1⟩) (λ_=>B)
  (λ_ c=>AeK c.1.2 (by decide))
def Aik{b:C Ab}{c:AQ}{a:Agl}(e:IZ b)(f:c.Cl)(d:a.B4.l<1000000000):R1 P9 5 [Z Ab.c b,.S (AQ.c c),.S (Agl.c a)] (.b L):=
 k1 (u:=L3 P9) (w:=KX) (v:=λ_ _=>O) (by kernel_rfl) AaI (vp _) (by decide) ((AhT g6 e f d).at B G.Aq) (W6 (b:=.b L) B _)
end Go.Proofs.YtbmnfifnenajjaaGreat
namespace Go.Proofs.YtbmnfifnenajjaaGreat
def sp5:ChangeSpec:=(Rows.OpenSpec.upto Rows.closurePathsSpec).bare
def Ahi:Rows.closurePathsUptoRow.wf (OpenSpec.ofChange sp5)=L:=by kernel_rfl
def AhH:namedTie Tryz.prog Rows.closurePathsUptoRow.named sp5.vars=L:=by kernel_rfl
def AhL:(Tryz.prog.stopKnobs==[])=L:=by kernel_rfl
def Ahm:(Rows.closurePathsUptoRow.named==Tryz.prog.varsNamed 5)=L:=by kernel_rfl
def Ahq:(Rows.closurePathsUptoRow.loops==(Tryz.f5.params.l++sp5.plain.varTypes Tryz.prog).any (Tryz.prog.loopsFrom ·))=L:=by kernel_rfl
def Ahv:(Rows.closurePathsUptoRow.ifacesOut==Tryz.f5.resultTypes.l.any (Tryz.prog.ifacesRec ·))=L:=by kernel_rfl
def Ahz:Tryz.prog.stopsHeard=L:=by kernel_rfl
def Ahj:laidOutB Tryz.prog=L:=by kernel_rfl
def AhI:(Rows.closurePathsUptoRow.stops==[])=L:=by kernel_rfl
def AhM:(Rows.closurePathsUptoRow.inPlace==Tryz.prog.inPlace 5)=L:=by kernel_rfl
def Ahn:(Rows.closurePathsUptoRow.maps==(Tryz.f5.params.l++sp5.plain.varTypes Tryz.prog).any (Tryz.prog.mapsRec ·))=L:=by kernel_rfl
def Ahr:(Rows.closurePathsUptoRow.wideKeys==(Tryz.f5.params.l++sp5.plain.varTypes Tryz.prog++Tryz.f5.resultTypes.l).any (Tryz.prog.wideKeysFrom ·))=L:=by kernel_rfl
def Ahw:(Rows.closurePathsUptoRow.loopsOut==Tryz.f5.resultTypes.l.any (Tryz.prog.loopsFrom ·))=L:=by kernel_rfl
def AhA:Tryz.prog.mayEnter=L:=by kernel_rfl
def AhD:(Rows.closurePathsUptoRow.pinned==Rows.closurePathsUptoRow.pinnedBy)=L:=by kernel_rfl
def Ahu:mapsRowed Tryz.prog=L:=by kernel_rfl
def AhJ:(Tryz.prog.stops==[])=L:=by kernel_rfl
def Ahk:(Rows.closurePathsUptoRow.unfollowed==Tryz.prog.unfollowed 5)=L:=by kernel_rfl
def Aho:(Rows.closurePathsUptoRow.ifaces==(Tryz.f5.params.l++sp5.plain.varTypes Tryz.prog).any (Tryz.prog.ifacesRec ·))=L:=by kernel_rfl
def Ahs:sp5.vars.all (Tryz.prog.varReadable ·)=L:=by kernel_rfl
def Ahx:(Rows.closurePathsUptoRow.plainKeys==Tryz.prog.plainKeys)=L:=by kernel_rfl
def AhB:(Rows.closurePathsUptoRow.lifted==Tryz.prog.liftsFinal)=L:=by kernel_rfl
def AhF:(Rows.closurePathsUptoRow.veiled==(Tryz.f5.params.l++sp5.plain.varTypes Tryz.prog++Tryz.f5.resultTypes.l).any (Tryz.prog.veiledRec ·))=L:=by kernel_rfl
def AhE:Tryz.f5.params.all (Tryz.prog.readableRec ·)=L:=by kernel_rfl
def AhK:(Rows.closurePathsUptoRow.knobs==[])=L:=by kernel_rfl
def Ahl:(Rows.closurePathsUptoRow.recurses==Tryz.prog.recurses 5)=L:=by kernel_rfl
def Ahp:(Rows.closurePathsUptoRow.mapsOut==Tryz.prog.mapsAmong Tryz.f5.resultTypes.l)=L:=by kernel_rfl
def Aht:Tryz.f5.resultTypes.all (λa=>Tryz.prog.readableRec a&&Ao (a<Tryz.prog.types.z))=L:=by kernel_rfl
def Ahy:Rows.closurePathsUptoRow.shortTexts.isNone=L:=by kernel_rfl
def AhC:(Tryz.prog.make==A Rows.closurePathsUptoRow.make)=L:=by kernel_rfl
def AhG:Rows.closurePathsUptoRow.veiledFits Tryz.prog Tryz.f5.params.l (Tryz.f5.params.l++sp5.plain.varTypes Tryz.prog++Tryz.f5.resultTypes.l)=L:=by kernel_rfl
def Aie:joinedFacts Tryz.prog 5 Tryz.f5 sp5 Rows.closurePathsUptoRow=L:=by unfold joinedFacts;exact Fu (Fu (Fu (Fu (Fu (Fu (Fu (Fu (Fu (Fu (Fu (Fu (Fu (Fu (Fu (Fu (Fu (Fu (Fu (Fu (Fu (Fu (Fu (Fu (Fu (Fu (Fu (Fu (Fu (Fu (Fu Ahi Ahj) Ahu) AhE) AhH) AhI) AhJ) AhK) AhL) AhM) Ahk) Ahl) Ahm) Ahn) Aho) Ahp) Ahq) Ahr) Ahs) Aht) Ahv) Ahw) Ahx) Ahy) Ahz) AhA) AhB) AhC) (by kernel_rfl)) AhD) AhF) AhG
def Aii:Tryz.prog.funcNamed Rows.closurePathsUptoRow.func=A 5:=by kernel_rfl
set_option maxRecDepth 100000 in
theorem Ail:Func.isWrapper Tryz.prog Tryz.f5 Rows.closurePathsUptoRow.wrapper Rows.closurePathsUptoRow.mainSum:=by unfold Func.isWrapper;first|(rw[Af (by decide+kernel)];kernel_rfl)|(rw[Ad (by decide+kernel)];exact⟨B,B⟩)
def Aig:Tryz.f5.isInstance Tryz.prog Rows.closurePathsUptoRow.origin Rows.closurePathsUptoRow.targs:=Go.Fg.Afg (by kernel_rfl)
