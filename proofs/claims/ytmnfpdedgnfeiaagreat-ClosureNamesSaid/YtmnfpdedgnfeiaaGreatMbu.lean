/- Part of the proof. -/
import Derived.Test.YtmnfpdedgnfeiaaGreatMbo
import Derived.Test.YtmnfpdedgnfeiaaGreatMbs
set_option linter.all false
noncomputable section
open Option renaming some->A,none->O,getD->Option.g,bind->Option.b
open _root_ renaming rfl->B,List->C,Nat->D,Int->K,if_neg->Ad,if_pos->Af,Option->Aj,cond->An,absurd->A_,decide_eq_false->Ba,decide_eq_true->Be
open Bool renaming true->L,false->Ac
open Decidable renaming decide->Au
open List renaming replicate->Bv,length->List.l,take->List.t,drop->List.d,flatMap->List.f
open Go.IntKind renaming i64->Go.IntKind.n
open Array renaming toList->Array.l
open Eq renaming trans->Eq.t
open Or renaming inl->Or.i,inr->Or.j
open Int renaming toNat->Int.n
namespace Go.Proofs.YtmnfpdedgnfeiaaGreat
open Go.Fg
theorem j9(b d:C Bc)(x:b.l=d.l)(E:b.l<1000000000)(h:G):∀(n a:D),a+n=b.l->jj W9 53 2 [.n b.l,Z Bc.c b,Z Bc.c d,.n a] h=A (.b (Au (b.d a=d.d a)),h)
 |0,a,s=>by
  have g:¬(a:K)<b.l:=by omega
  rw[Qv.2.2.2.1,Aiq (by omega),Aiq (by omega)];simp only[QY,g,Qv.2.2.1,AiA]
 |n+1,a,s=>by
  have g:(a:K)<b.l:=by omega
  obtain⟨c,F,I⟩:=Eh (b:=b) (a:=a) (by omega);obtain⟨r,J,M⟩:=Eh (b:=d) (a:=a) (by omega);have o:=Fi (a:=Bc.c) (f:=2) (i:=.n) F B;have p:=Fi (a:=Bc.c) (f:=2) (i:=.n) J B;have q:∀c:Bc,Bf 2 h [.pi c.c]=A (.S c.c):=λ_=>B;have N:=j9 b d x E h n (a+1) (by omega);have m:=hd c r;rw[Qv.2.2.2.1,I,M];by_cases j:c=r;.rw[Be j]at m;simp only[QY,g,Qv.2.2.2.2.1,o,p,q,m,Qv.2.2.2.2.2,H (BF (a:=a) (by omega)),AiB,N];simp[j]
  .rw[Ba j]at m;simp only[QY,g,Qv.2.2.2.2.1,o,p,q,m,Ai2];simp[j]
theorem rr(a b:C Bc)(k:a.l<1000000000):A2 53 [Z Bc.c a,Z Bc.c b] (.b (Au (a=b))):=BP B B B ⟨G.Az,by
 have i:=Ek Bc.c a;have j:=Ek Bc.c b;rw[Qv.1];by_cases g:a.l=b.l
 .have d:(a.l:K)=b.l:=by omega
  have c:=j9 a b g k G.Az a.l 0 (by omega);have c:jj W9 53 2 [.n a.l,Z Bc.c a,Z Bc.c b,.n 0] G.Az=_:=c;simp only[QY,i,j,d,Qv.2.1];rw[d]at c;exact c
 .have d:¬(a.l:K)=b.l:=by omega
  have:¬a=b:=λe=>g (by rw[e]);simp only[QY,i,j,d,this,AiY]⟩
theorem Aca{n:D}{h a:G}{i:F}{g d:C Bc}(s:A2 n [Z Bc.c g,Z Bc.c d] (.b (Au (g=d))))(x:AF a i Bc.c 2 g)(l:AR h a)(r:EV h i):∃b,W9 (Ar n) [i,Z Bc.c d] a=A (.b (Au (g=d)),b)/\AR h b:=by
 let⟨b,q,m⟩:=B6.F9 (t:=λo=>¬AE i o) (B6.cons (Fs.CC (a:=Bc.c) (g:=2) (λo k=>k) (λ_=>B) (λ_=>B) x) (B6.cons ((Fs.im (a:=Z Bc.c d) B).up (by omega)) (B6.nil 2 a))) (by omega)
 exact⟨b,s a _ b q,λp j=>⟨(m.o p (λk=>k (r p j))).t (l.N j),by rw[m.l];exact l.lv j⟩⟩
theorem sJ(a:Cr)(b:K)(h:G):∃g,Dq h (.AC [.S (Cr.c a),.n b])=A (.AC [.S (Cr.c a),.n b],g):=VS (B6.cons ((Fs.S (a:=1) (B6.Nu (c:=h) (a:=Cr.c a) B)).up (by omega)) (B6.cons ((Fs.im (a:=.n b) B).up (by omega)) (B6.nil 5 _)))
def Q2:Cr:=⟨[],[]⟩
def LB(a:AP)(f:AH):Aj M:=if f.Ao< -1 then O else GX a f
def Nj(e:Ah)(b:C Bc)(f:AH):D->D->Aj M
 |_,0=>O
 |a,c+1=>if G6 e a=b then LB (e.at a) f else Nj e b f (a+1) c
def MG(e:Ah):Aj M->Cr×K
 |none=>(Q2,7)
 |some a=>(GN e.Ae [a],0)
def RB(a:Ah×K)(b:C Bc)(f:AH):Cr×K:=if a.2≠0 then(Q2,a.2)else MG a.1 (Nj a.1 b f 0 a.1.T.l)
theorem Ae6{a:AP}{f:AH}{b:M}(h:GX a f=A b):A9 a f=b:=by unfold A9;rw[h];rfl
section
variable{t:CW} {y:Aa->Bz} {h:G} {e:Ah} {w:Ly} {f:AH} {v u:Aa} {z:C F}
theorem kL(d:h.N u=A (.I 2 z)):∃a b,jj W9 19 1 [.p u 0] h=A (.AC [b,.n 7],a)/\∃g,Dq a (.AC [b,.n 7])=A (.AC [.S (Cr.c Q2),.n 7],g):=by have c:BE [.sn,.sn] [] []=A (.S [.sn,.sn]):=B;have j:=Ho d (a:=[.sn,.sn]) B B;have i:(h.set u (.I 2 [.sn,.sn])).AU u 0 2=A [.sn,.sn]:=B2 (by rw[AY,Af B]);refine⟨h.set u (.I 2 [.sn,.sn]),.S [.sn,.sn],?_,_,B⟩;rw[JH.2.2.1];simp only[QY,c,j,i]
theorem Aep(xj:Bj t.l)(m:EU y h t.l t.es t.k t.x e w)(p:Bn t.l e){i:D}{n:AP}(x:e.T[i]? =A n){a:M}(E:GX n f=A a)(U:h.N v=A (.I 2 (AH.c f)))(V:h.N u=A (.I 2 z))(j:Lv h u):∃r G,jj W9 19 4 [.p t.x 0,.p (w.pc i) 0,.p v 0,.p u 0] h=A (.AC [G,.n 0],r)/\∃X,Dq r (.AC [G,.n 0])=A (.AC [.S (Cr.c (GN e.Ae [a])),.n 0],X):=by
 have N:=p.W.E8;have J:=m.Bw i n x;have xh:h.AU t.x 3 1=A [w.mv]:=by rw[EA m.N,Af (by omega),Ad (by omega)];rfl
 have T:Bt 3 [.p t.x 0]=A (.p t.x 3):=by rw[F6]
 let⟨b,xb,c⟩:=Np J f E
 have q:=m.ext c;have xc:An (BV (.ld 1) [.p t.x 3] b (.S [w.mv])) L Ac=L:=by rw[Ux];rfl;rw[Gk,EA q.N,Af (by omega),Ad (by omega)];rfl
 have k:=AR.V b (.I 2 ([a].f M.c));have P:=q.ext k;have Y:∀I∈[a],GP I e.Ae.l=L:=λI Z=>by rw[Ai3.1 Z,<-Ae6 E,<-DM x];exact p.W.A9 i f
 let⟨s,o,xi⟩:=iG N P.Ae (k6 b a) (by simp) Y
 have R:AE (.Z b.next 0 1 2 2) u:=Fe λxa=>FO b (by rw[xa];exact c.lv j);have W:=(xi u (k.lv (c.lv j)) R).1.t ((k.N (c.lv j)).t ((c.N j).t V));have S:Ct (Cr.c (GN e.Ae [a]))=L:=B;have xe:=Ho W (a:=Cr.c (GN e.Ae [a])) B S;have xd:(s.set u (.I 2 (Cr.c (GN e.Ae [a])))).AU u 0 2=A (Cr.c (GN e.Ae [a])):=B2 (by rw[AY,Af B]);have xf:∀d g:F,Ca 0 [.AC [d,g]]=A d:=λ_ _=>B;have xg:∀d g:F,Ca 1 [.AC [d,g]]=A g:=λ_ _=>B;refine⟨s.set u (.I 2 (Cr.c (GN e.Ae [a]))),.S (Cr.c (GN e.Ae [a])),?_,sJ _ _ _⟩;have o:W9 (Ar 55) [.S [w.mv],.Z b.next 0 1 2 2] (b.V (.I 2 ([a].f M.c)))=_:=o;rw[JH.2.2.2.2.2.2.2];simp only[↓Q,↓QT,↓H T,↓H xh,↓B2 U,↓H xb,↓Jz xc,↓H (eo b.next a),↓H o,↓H (xf _ _),↓H (xg _ _),↓H xe,↓H xd]
theorem j4(xr:Bj t.l)(xi:Bn t.l e)(c:C Bc)(xI:e.T.l<1000000):∀(j a:D){h:G},a+j=e.T.l->EU y h t.l t.es t.k t.x e w->h.N v=A (.I 2 (AH.c f))->Lv h v->h.N u=A (.I 2 z)->Lv h u->∃g k,jj W9 19 2 [.n e.T.l,w.cv,Z Bc.c c,.n a,.p t.x 0,.p v 0,.p u 0] h=A (.AC [k,.n (MG e (Nj e c f a j)).2],g)/\∃Q,Dq g (.AC [k,.n (MG e (Nj e c f a j)).2])=A (.AC [.S (Cr.c (MG e (Nj e c f a j)).1),.n (MG e (Nj e c f a j)).2],Q)
 |0,a,h,xH,V,xx,xp,xl,xf=>by
  have W:¬(a:K)<e.T.l:=by omega
  let⟨g,k,xN,xd⟩:=kL xl
  refine⟨g,k,?_,xd⟩;rw[JH.2.2.2.1];simp only[QY,W,xN];rfl
 |j+1,a,h,xH,V,xx,xp,xl,xf=>by
  have W:(a:K)<e.T.l:=by omega
  let⟨b,S⟩:=Bo (b:=e.T) (a:=a) (by omega)
  let⟨xW,xz,xC⟩:=V.Lk S
  let⟨x0,xY,xd,xT,xE,xF⟩:=cr V xi.W.sh S
  have xZ:=le (c:=t.l) (a:=e) a;let⟨m,xe,x⟩:=Aca (rr (G6 e a) c (by omega)) xT xE xF
  have xj:=V.ext x;have xb:=(x.N xp).t xx;have xm:=(x.N xf).t xl;by_cases Y:G6 e a=c
  .have xh:∀{n:R},jj W9 19 5 [.p t.x 0,.p (w.pc a) 0,.p v 0,.p u 0] m=n->jj W9 19 2 [.n e.T.l,w.cv,Z Bc.c c,.n a,.p t.x 0,.p v 0,.p u 0] h=n:=λ{n} xn=>by
    rw[Be Y]at xe
    rw[JH.2.2.2.1]
    simp only[QY,W,JH.2.2.2.2.1,xz,xC,xd,xe,QB]
    exact xn
   have xk:Nj e c f a (j+1)=LB (e.at a) f:=by rw[show Nj e c f a (j+1)=if _ then _ else _ from B,Af Y]
   rw[xk,DM S]
   have s:=xj.Bw a b S
   have p:m.AA v 0=A (.n f.Ao):=AJ xb 0
   have M:m.AA v 1=A (.n f.Aw):=AJ xb 1
   have X:m.AA (w.pc a) 4=A (w.pv a):=AJ s.N 4
   have E:m.AA (w.pc a) 5=A (w.ov a):=AJ s.N 5
   have xg:=C4 s.Ap
   have q:=C4 s.AB
   rw[Aip]at q
   let⟨xJ,xU,xO,xP⟩:=kL xm
   have T:LB b f=O->jj W9 19 5 [.p t.x 0,.p (w.pc a) 0,.p v 0,.p u 0] m=jj W9 19 1 [.p u 0] m->∃g k,jj W9 19 2 [.n e.T.l,w.cv,Z Bc.c c,.n a,.p t.x 0,.p v 0,.p u 0] h=A (.AC [k,.n (MG e (LB b f)).2],g)/\∃Q,Dq g (.AC [k,.n (MG e (LB b f)).2])=A (.AC [.S (Cr.c (MG e (LB b f)).1),.n (MG e (LB b f)).2],Q):=λxo I=>by rw[xo];exact⟨xJ,xU,xh (I.t xO),xP⟩
   have xD:∀r,GX b f=A r->jj W9 19 5 [.p t.x 0,.p (w.pc a) 0,.p v 0,.p u 0] m=jj W9 19 4 [.p t.x 0,.p (w.pc a) 0,.p v 0,.p u 0] m->¬f.Ao< -1->∃g k,jj W9 19 2 [.n e.T.l,w.cv,Z Bc.c c,.n a,.p t.x 0,.p v 0,.p u 0] h=A (.AC [k,.n (MG e (LB b f)).2],g)/\∃Q,Dq g (.AC [k,.n (MG e (LB b f)).2])=A (.AC [.S (Cr.c (MG e (LB b f)).1),.n (MG e (LB b f)).2],Q):=λr J I xG=>by
    let⟨xK,xV,xQ,xR⟩:=Aep xr xj xi S J xb xm (x.lv xf)
    have xo:LB b f=A r:=by unfold LB;rw[Ad xG];exact J
    rw[xo];exact⟨xK,xV,xh (I.t xQ),xR⟩
   have xX:Bt 0 [.p (w.pc a) 0]=A (.p (w.pc a) 0):=by rw[F6]
   have U:LB b f=if f.Ao< -1 then O else if f.Ao<0 then(if 0<=f.Aw then b.Ap[f.Aw.n]?else O)else(if 0<=f.Aw then(b.AB[f.Ao.n]?).b λxS=>xS[f.Aw.n]?else O):=B
   by_cases d:f.Ao< -1
   .exact T (by rw[U,Af d]) (by rw[JH.2.2.2.2.2.2.1];simp only[QY,p,d])
   by_cases F:f.Ao>=(b.AB.l:K)
   .exact T (by rw[U,Ad d,Ad (by omega),Aji (by omega)];split<;>rfl) (by rw[JH.2.2.2.2.2.2.1];simp only[QY,p,E,q,d,F])
   by_cases N:f.Aw<0
   .exact T (by rw[U,Ad d,Ad (show¬0<=f.Aw by omega),Ad (show¬0<=f.Aw by omega)];split<;>rfl) (by rw[JH.2.2.2.2.2.2.1];simp only[QY,p,M,E,q,d,F,N])
   by_cases xa:f.Ao= -1
   .have xu:A7 .lss [.n f.Ao,.n (-1)]=A (.b Ac):=by rw[E1,Ba d]
    have xv:A7 .eql [.n f.Ao,.n (-1)]=A (.b L):=by rw[Cz,Be xa]
    have xw:A7 .neq [.n f.Ao,.n (-1)]=A (.b Ac):=by rw[FW,Be xa];rfl
    by_cases P:f.Aw>=(b.Ap.l:K);.exact T (by rw[U,Ad d,Af (by omega),Af (by omega)];exact Aji (by omega)) (by rw[JH.2.2.2.2.2.2.1];simp only[QY,p,M,X,E,xg,q,xu,xv,xw,F,N,P])
    .let⟨r,J⟩:=Bo (b:=b.Ap) (a:=f.Aw.n) (by omega)
     exact xD r (by unfold GX;rw[Af (by omega),Af (by omega)];exact J) (by rw[JH.2.2.2.2.2.2.1];simp only[QY,p,M,X,E,xg,q,xu,xv,xw,F,N,P]) d
   .let⟨xq,xc⟩:=Bo (b:=b.AB) (a:=f.Ao.n) (by omega)
    have I:=(Aid.1 xc).1;let⟨xt,xs⟩:=Dm (f:=EX (w.og a)) (w:=1) (λ_=>B) s.AB (Ga I)
    have xy:AZ 1 [w.ov a,.n f.Ao]=A (.p xt (f.Ao.n*1)):=by have:=xs.ia;rwa[show f.Ao.n=f.Ao by omega]at this
    have xB:m.AA xt (f.Ao.n*1)=A (w.og a f.Ao.n):=by have:=xs.AA (f:=EX (w.og a)) (λ_=>B) (Ga I) (b:=0) (by grind);exact this
    have xA:=C4 (s.Aw _ xq xc).1;by_cases P:f.Aw>=(xq.l:K);.exact T (by rw[U,Ad d,Ad (by omega),Af (by omega),xc];exact Aji (by omega)) (by rw[JH.2.2.2.2.2.2.1];simp only[QY,p,M,X,E,xg,q,xy,xB,xA,d,F,N,xa,P])
    .let⟨r,J⟩:=Bo (b:=xq) (a:=f.Aw.n) (by omega)
     exact xD r (by unfold GX;rw[Ad (by omega),Af (by omega),xc];exact J) (by rw[JH.2.2.2.2.2.2.1];simp only[QY,p,M,X,E,xg,q,xy,xB,xA,d,F,N,xa,P]) d
  .have xh:∀{n:R},jj W9 19 2 [.n e.T.l,w.cv,Z Bc.c c,.n (a+1:D),.p t.x 0,.p v 0,.p u 0] m=n->jj W9 19 2 [.n e.T.l,w.cv,Z Bc.c c,.n a,.p t.x 0,.p v 0,.p u 0] h=n:=λ{n} xn=>by
    rw[Ba Y]at xe
    rw[JH.2.2.2.1]
    simp only[QY,W,JH.2.2.2.2.1,xz,xC,xd,xe,QB,JH.2.2.2.2.2.1,H (BF (a:=a) (by omega))]
    exact xn
   have xk:Nj e c f a (j+1)=Nj e c f (a+1) j:=by rw[show Nj e c f a (j+1)=if _ then _ else _ from B,Ad Y]
   rw[xk]
   let⟨g,k,xL,xM⟩:=j4 xr xi c xI j (a+1) (by omega) xj xb (x.lv xp) xm (x.lv xf)
   exact⟨g,k,xh xL,xM⟩
end
def om{k:C Ab}(xu:CA k){u J E:D}(xv:u=400)(d:AS)(xp:d.l.l<=2000000)(xq:El d.l<=100000000)(m:C Bc)(h:AH){c:Ah×K}(t:F7 k u J E d=A c):A2 19 [Z Ab.c k,.S (AS.c d),Z Bc.c m,.S (AH.c h)] (.AC [.S (Cr.c (RB c m h).1),.n (RB c m h).2]):=by
 have xi:∀g:CW,g.l=k->Lx g->P4 g u (λb=>Bj k/\GI k b):=λg z xg=>by
  subst z;have j:=λw=>em (c:=g) w u;exact{
   OE:=λb a=>(j a.1).OE b a.2
   Ay:=λb a=>(j a.1).Ay b a.2
   round:=λb a=>(j a.1).round b a.2
   KI:=λb a=>(j a.1).KI b a.2
   QL:=λb a=>(j a.1).QL b a.2
   C0:=λb J c a xw n e=>⟨a.1,(j a.1).C0 b J c a.2 xw n e⟩}
 let⟨xb,e,xx,xr,xH,xl,X,xN⟩:=box G.Az (.I 2 (AS.c d))
 have xE:∀(a:F->G->R),bl (.p G.Az.next 0) (G.Az.V (.I (BK (F.I (.S (AS.c d)))) (F.I (.S (AS.c d))))) a=a (.p xb 0) e:=Em G.Az (.I 2 (AS.c d)) xx xr;let⟨q,o,xy,xs,N,xm,Y,xO⟩:=box e (.I 2 (AH.c h))
 have xF:∀(a:F->G->R),bl (.p e.next 0) (e.V (.I (BK (F.I (.S (AH.c h)))) (F.I (.S (AH.c h))))) a=a (.p q 0) o:=Em e (.I 2 (AH.c h)) xy xs;let⟨f,y,xz,xt,v,xo,xA,xP⟩:=box o (.I 2 [.sn,.sn])
 have xG:∀(a:F->G->R),bl (.p o.next 0) (o.V (.I 2 [.sn,.sn])) a=a (.p f 0) y:=Em o _ xz xt;have xB:y.AU xb 0 2=A (AS.c d):=B2 ((v.N (N.lv X)).t ((N.N X).t xl));let⟨xV,p,W,P,xI,xh⟩:=ck xu xv d xp xq xi (λc t e=>by let⟨i,a⟩:=NN (λn=>GU n) t e;exact⟨GU i,a⟩) t y (g:=λM=>M=q\/M=f) (λM V=>by
  rcases V with rfl|rfl;.exact v.lv Y
  .exact xA)
 have xn:=(P q (.i B)).t ((v.N Y).t xm);have T:=(P f (.j B)).t xo;have xd:∀r s:F,Ca 0 [.AC [r,s]]=A r:=λ_ _=>B;have xe:∀r s:F,Ca 1 [.AC [r,s]]=A s:=λ_ _=>B;by_cases i:c.2=0
 .obtain⟨g,z,rfl,xg,xf⟩:=xh i;subst z;let⟨w,a⟩:=Yu (λn=>GU n) t i
  have xj:=a.X.W.sh;have xM:=xj.AX;let⟨xQ,xS,xc,x,V,U⟩:=xf
  have xD:p.AA g.x 2=A xc.cv:=AJ x.N 2;have xa:=C4 x.T;rw[Aip]at xa;let⟨xK,xU,I,xL,xk⟩:=j4 w a.X m (by omega) c.1.T.l 0 (by omega) x xn (U q (.i B)).1 T (U f (.j B)).1
  have I:jj W9 19 2 [.n c.1.T.l,xc.cv,Z Bc.c m,.n 0,.p g.x 0,.p q 0,.p f 0] p=_:=I;unfold RB;rw[Ad (λE=>E i)];rw[i]at W;refine FN B B ?_ xk;rw[JH.1];simp only[↓xE,↓xF,↓xG,↓Q,↓QT,↓H xB,↓H W,↓H (xd _ _),↓H (xe _ _),JH.2.1,↓H xD,↓H xa];exact I
 .have xC:RB c m h=(Q2,c.2):=by unfold RB;rw[Af i]
  rw[xC];have xJ:BE [.sn,.sn] [] []=A (.S [.sn,.sn]):=B;have xT:=Ho T (a:=[.sn,.sn]) B B;have xR:(p.set f (.I 2 [.sn,.sn])).AU f 0 2=A [.sn,.sn]:=B2 (by rw[AY,Af B]);refine FN B B (e:=.AC [.S [.sn,.sn],.n c.2]) (c:=p.set f (.I 2 [.sn,.sn])) ?_ (h:=p.set f (.I 2 [.sn,.sn])) B;rw[JH.1];simp only[QY,H (xd _ _),H (xe _ _), *]
def Qk:Ab:=⟨[109,97,105,110,46,48],3,[⟨1,[],0,[pw 0]⟩,⟨4,[108,101],0,[nw 0,nw 0]⟩,⟨5,[],0,[nw 1,pw 0]⟩,⟨5,[],0,[nw 1,pw 1]⟩,⟨5,[],0,[nw 1,pw 2]⟩,⟨1,[],1,[nw 2]⟩,⟨4,[115,117,98],0,[nw 3,nw 5]⟩,⟨4,[97,100,100],0,[nw 4,nw 4]⟩],[nw 2,nw 6,nw 7],[⟨4,1⟩]⟩
def CN:C Ab:=[PD,Qk]
def H6:AS:=⟨[[1]],[L]⟩
theorem hI{c:C Ab}{e:Ah}{a j:D}{g:K}(r:a<e.T.l)(q:(AL c e a j).op≠11):(Ev c e ⟨a,j⟩ g).2=0\/(Ev c e ⟨a,j⟩ g).2=5:=by
 by_cases o:e.Aq=6000;.right;unfold Ev;rw[Af o]
 rw[bZ r o];by_cases m:(AL c e a j).op=8\/(AL c e a j).op=9
 .rw[Af m];unfold H0;split
  .unfold ED;split;.exact .j B
   .split<;>exact .i B
  .exact .i B
 rw[Ad m,Ad q];by_cases l:(AL c e a j).op=5;.rw[Af l];exact .i B
 rw[Ad l];have s:(CV (Bm e ⟨a,j⟩ g) ⟨a,j⟩ (AL c e a j) (Dr c e a j)).2.2=0\/(CV (Bm e ⟨a,j⟩ g) ⟨a,j⟩ (AL c e a j) (Dr c e a j)).2.2=5:=by
  have k:∀f:EW,(f.op=1\/f.op=3\/f.op=4)->(DE (Bm e ⟨a,j⟩ g) f).2.2=0\/(DE (Bm e ⟨a,j⟩ g) f).2.2=5:=λf n=>by
   rw[Og n];by_cases b:(BA (Bm e ⟨a,j⟩ g).Ae f).e≠0
   .rw[Af b];right;unfold BA at b⊢;rcases n with h|h|h
    .rw[Af h]at b⊢
     unfold C7 at b⊢
     repeat' split at b
     all_goals first|exact A_ B b|skip
     all_goals(repeat' split)<;>first|rfl|contradiction
    .rw[Ad (by omega),Ad (by omega),Af h]at b⊢
     unfold Ds at b⊢
     repeat' split at b
     all_goals first|exact A_ B b|skip
     all_goals(repeat' split)<;>first|rfl|contradiction
    .rw[Ad (by omega),Ad (by omega),Ad (by omega)]at b;exact A_ B b
   .rw[Ad b];exact .i B
  unfold CV;split;.exact .i B
  split;.exact .i B
  split;.exact .i B
  split;.exact k _ (.i B)
  split;.exact k _ (.j (.i B))
  split;.exact k _ (.j (.j B))
  split;.exact .i B
  .exact .i B
 rcases s with i|i;.rw[Ad (λh=>h i)];exact .i B
 .rw[Af (by rw[i];decide)];exact .j i
theorem bt:∀b∈CN,∀a∈b.Ay,a.op≠6/\a.op≠11/\a.op≠8/\(a.op=9->b=PD/\a=⟨9,[109,97,105,110,46,48],0,[pw 0,nw 1,nw 2]⟩):=by decide
section
variable{u:C AG} {t:C M} {e:Ah} {d p j:D}
theorem gY(c:Bn CN e)(g:d<e.T.l)(a:AL CN e d j≠M6):Ch CN (e.at d)∈CN/\(Ch CN (e.at d)).Ay[j]? =A (AL CN e d j):=by
 obtain⟨i,f,b⟩:=c.W.sh.Bw d _ (Cu g)
 unfold AL at a⊢
 rw[b.BB]at a⊢
 refine⟨Ail b.hb,?_⟩
 cases h:f.Ay[j]?with
 |none=>rw[h]at a;exact A_ B a
 |some k=>rfl
theorem VD(b:Ex CN u t e)(c:By e d p j):p=0/\j=3/\Ch CN (e.at d)=Qk/\Ch CN (e.at 0)=PD:=by
 have n:∀{d p j},By e d p j->Ch CN (e.at p)=PD/\j=3/\Ch CN (e.at d)=Qk:=λ{d p j} c=>by
  obtain⟨z,G,f⟩:=b.up c;obtain⟨q,a⟩:=gY b.X z (ZA (d:=j) (by omega));have y:=bt _ q _ (Ail a);obtain⟨h,i⟩:=y.2.2.2 (by omega);rw[i]at f;have f:CO CN [109,97,105,110,46,48]=(e.at d).A4:=f;have r:CO CN [109,97,105,110,46,48]=1:=by decide
  refine⟨h,?_,by unfold Ch;rw[<-f,r];rfl⟩;rw[h,i]at a;have k:=(Aid.1 a).1;have k:j<4:=k;have:j=0\/j=1\/j=2\/j=3:=by omega
  rcases this with rfl|rfl|rfl|rfl;.exact A_ a (by decide)
  .exact A_ a (by decide)
  .exact A_ a (by decide)
  .rfl
 obtain⟨m,w,x⟩:=n c;have s:p=0:=Aih λv=>by have l:=(b.up c).1;have g:(e.at p).AN≠-1:=λg=>v (b.X.W.sh.DL p _ (Cu l) g);obtain⟨F,E,_,_,_,o,_⟩:=b.X.up l g;have:=(n o).2.2;rw[m]at this;exact A_ this (by decide)
 subst s;exact⟨B,w,x,m⟩
theorem rn(b:Ch CN (e.at d)=Qk)(j a:D):Am CN e d j a=match(((Qk.Ay[j]?).g M6).AT)[a]?with|some c=>A9 (e.at d) c|none=>AK:=by unfold Am Nx;rw[b];cases(((Qk.Ay[j]?).g M6).AT)[a]? <;>rfl
theorem Rf{c:AP}{a b:D}:A9 c ⟨(a:K),(b:K)⟩=Bg c a b:=by rw[PP];rw[Af (Ai8 b),Ad (by show¬(a:K)<0;omega)];rfl
theorem Xu{b:AP}{a:D}:A9 b ⟨-1,(a:K)⟩=BQ b a:=by rw[PP];rw[Af (Ai8 a),Af (by show(-1:K)<0;omega)];rfl
theorem bu(a:Ex CN u t e)(n:t[0]? =A Di)(c:By e d 0 3):(BQ (e.at d) 0).Ai≠0/\(BQ (e.at d) 0).Ai≠5:=by
 have f:=a.X.W.p0 d c.1;refine⟨f,?_⟩;have v:=(a.X.W.sh.As d _ (Cu c.1)).1;by_cases q:(e.at d).As=0
 .have:=a.J.Ep d 0 3 c q 0 f;have k:=(VD a c).2.2.2;have r:Am CN e 0 3 0=BQ (e.at 0) 0:=by unfold Am Nx;rw[k];exact Xu (a:=0)
  rw[<-this,r,a.J.L4,n];decide
 .obtain⟨h,i,o⟩:=a.X.V d 0 3 c (by omega);obtain⟨s,l,m⟩:=a.J.L5 h d i o 0 f;have g:=(a.X.W.EO h i (by omega)).2;unfold B8 at g;rw[l,Aiz,m]at g;exact g
theorem rk(f:Ex CN u t e)(r:t[0]? =A Di)(c:By e d 0 3)(q:(Bg (e.at d) 1 0).Ai≠0):Bg (e.at d) 1 0=⟨2,1⟩:=by
 have h:=(VD f c).2.2.1;have v:=bu f r c;have g:AL CN e d 1=⟨4,[108,101],0,[nw 0,nw 0]⟩:=by unfold AL;rw[h];rfl
 have i:AL CN e d 0=⟨1,[],0,[pw 0]⟩:=by unfold AL;rw[h];rfl
 have k:=f.J.Ao d 1 c.1 (Q1 f c.1 q).1;have s:Am CN e d 1 0=Bg (e.at d) 0 0:=by rw[rn h];exact Rf (a:=0) (b:=0)
 have l:=k.all (by rw[g];decide) (by rw[g];decide) 0 (by rw[g];decide);rw[s]at l;have m:=f.J.Ao d 0 c.1 (Q1 f c.1 l).1;have o:=m.Q4 (by rw[i];exact .i B);have w:Dr CN e d 0=[BQ (e.at d) 0]:=by unfold Dr;rw[i];show[A9 (e.at d) (pw 0)]=_;rw[show A9 (e.at d) (pw 0)=BQ (e.at d) 0 from Xu (a:=0)]
 have n:Bg (e.at d) 0 0=⟨1,0⟩:=by rw[o,i,w];show KF _ (BQ (e.at d) 0)=_;unfold KF;rw[Ad v.2];rfl
 have x:Dr CN e d 1=[⟨1,0⟩,⟨1,0⟩]:=by unfold Dr;rw[g];show[A9 (e.at d) (nw 0),A9 (e.at d) (nw 0)]=_;rw[show A9 (e.at d) (nw 0)=Bg (e.at d) 0 0 from Rf (a:=0) (b:=0),n]
 rw[k.Q4 (by rw[g];exact .j (.j (.j (.i B)))),g,x];show Iu [108,101] [⟨1,0⟩,⟨1,0⟩]=_;decide
theorem bv(l:Ex CN u t e)(s:t[0]? =A Di)(k:By e d 0 3){f:D}{g:AH}(c:AL CN e d f=⟨5,[],0,[nw 1,g]⟩)(v:0<BW (e.at d) f):Bg (e.at d) f 0=A9 (e.at d) g/\(Bg (e.at d) f 1).Ai=0/\(A9 (e.at d) g).Ai≠0:=by
 have h:=l.J.Ao d f k.1 v;have o:Am CN e d f 0=Bg (e.at d) 1 0:=by unfold Am;rw[I9,c];exact Rf (a:=1) (b:=0)
 have q:Am CN e d f 1=A9 (e.at d) g:=by unfold Am;rw[I9,c];rfl
 have m:=h.all (by rw[c];show¬((5:K)=8\/(5:K)=9);decide) (by rw[c];show(5:K)≠6;decide) 0 (by rw[c];show 0<2;omega);have n:=h.all (by rw[c];show¬((5:K)=8\/(5:K)=9);decide) (by rw[c];show(5:K)≠6;decide) 1 (by rw[c];show 1<2;omega);rw[o]at m;rw[q]at n;have r:=rk l s k m;have i:=h.sw (by rw[c]);rw[o,q,r]at i;exact⟨i 0,by rw[i 1];rfl,n⟩
theorem ro(g:Ex CN u t e)(l:t[0]? =A Di)(c:By e d 0 3):(DN CN (e.at d) 0).Ai=0/\(B8 CN (e.at d)).Ai≠5:=by
 have i:=(VD g c).2.2.1;have m:=bu g l c;constructor;.unfold DN;rw[i];show(A9 (e.at d) ⟨4,1⟩).Ai=0;rw[show A9 (e.at d) ⟨4,1⟩=Bg (e.at d) 4 1 from Rf (a:=4) (b:=1)];refine Aih λh=>h ?_;exact(bv g l c (f:=4) (g:=pw 2) (by unfold AL;rw[i];rfl) (Q1 g c.1 h).1).2.1
 .unfold B8;rw[i];show(A9 (e.at d) (nw 2)).Ai≠5;rw[show A9 (e.at d) (nw 2)=Bg (e.at d) 2 0 from Rf (a:=2) (b:=0)];intro h;have:=(bv g l c (f:=2) (g:=pw 0) (by unfold AL;rw[i];rfl) (Q1 g c.1 (b:=2) (d:=0) (by omega)).1).1;rw[this,show A9 (e.at d) (pw 0)=BQ (e.at d) 0 from Xu (a:=0)]at h;exact m.2 h
theorem rp(a:Ex CN u t e)(v:t[0]? =A Di){l:K}(g:Ti CN e l):l=5:=by
 rcases g with⟨g,_⟩|⟨_,o,p,I,b,P,M,n,_⟩|⟨_,s,x,F,m,h⟩;.exact g
 .exfalso;obtain⟨d,f,_,G⟩:=a.J.BS p I b n;have E:=VD a f;obtain⟨rfl,rfl,z,_⟩:=E;have r:=ro a v f;have q:(Bg (e.at 0) 3 b).Ai≠0:=λJ=>by have:=((a.X.W.CX d 0 3 f).2 b).1 J;rw[n]at this;cases this
  rcases G with⟨_,c,H⟩|⟨_,c,_⟩
  .rw[z]at c;have:b=0:=by have:b<1:=c;omega
   subst this;rw[H]at q;exact q r.1
  .exact r.2 c
 .exfalso;obtain⟨o,y⟩:=Ajh.1 x;obtain⟨N,k,i⟩:=a.X.W.sh.Bw o s y;have w:k∈CN:=Ail i.hb;rw[i.BB]at m;have:=(bt k w F m).1;unfold Gy at h;simp only[Aie,Ain]at h;exact this h.1
theorem gX(o:t[0]? =A Di){r:Ah}{c:K}(s:c≠0)(a:To CN (λe=>JU CN u t e/\Mo r e) c):c=5:=by
 rcases a with⟨e,b,⟨h,_⟩,a⟩|⟨e,q,j,k,b,⟨h,_⟩,f,v,_,a⟩;.exact rp ⟨b,h⟩ o a
 .by_cases i:AL CN e q j=M6;.rcases hI (c:=CN) (j:=j) (g:=k) f (by rw[i];decide)with g|g<;>omega
  .obtain⟨m,n⟩:=gY b f i;rcases hI (c:=CN) (j:=j) (g:=k) f (bt _ m _ (Ail n)).2.1 with g|g<;>omega
theorem Yf(k:Ex CN u t e)(v:Bp CN e=[])(g:d<e.T.l){a:D}{q:AD}(h:(Ch CN (e.at d)).Ay[a]? =A q)(m:FB (e.at d) q 0=L):0<BW (e.at d) a:=by
 refine Aih λf=> ?_;have f:BW (e.at d) a=0:=by have:=k.X.W.f0 d a;omega
 obtain⟨E,F,c⟩:=k.X.W.sh.Bw d _ (Cu g);rw[c.BB]at h;have o:=(Aid.1 h).1;obtain⟨s,n⟩:=Bo (b:=(e.at d).AI) (a:=a) (by rw[c.AI];exact o);have r:s=0:=by unfold BW at f;rw[n]at f;exact f
 have z:Gb CN (e.at d) a=L:=by unfold Gb;rw[c.ha,Aif,c.hb];simp only[h,n];rw[r];exact m
 have:(⟨(d:K),(a:K)⟩:A8)∈Bp CN e:=by
  unfold Bp;have x:∀b,d<b->(⟨(d:K),(a:K)⟩:A8)∈Ix CN e.T b:=λb=>by
   induction b with
   |zero=>intro m;omega
   |succ b w=>
    intro G;unfold Ix;by_cases y:d=b;.subst y;refine Ajb _ ?_;rw[Cu g];unfold JS;exact AiR.2 ⟨a,Ajy.2 ⟨AiT.2 (by rw[c.AI];exact o),z⟩,B⟩
    .exact Ajl _ (w (by omega))
  exact x _ g
 rw[v]at this;cases this
theorem Xr{a:AP}{b:AH}(c:(A9 a b).Ai≠0):Gd a b=L:=U3.2 c
theorem gZ(g:Ex CN u t e)(m:t[0]? =A Di)(w:K0 CN e)(k:Bp CN e=[]):∀v:D,∃d,By e d 0 3/\(e.at d).As=(v:K)
 |0=>by
  have i:Ch CN (e.at 0)=PD:=by unfold Ch;rw[g.J.DL.2];rfl
  have p:A9 (e.at 0) (pw 0)=Di:=by rw[show A9 (e.at 0) (pw 0)=BQ (e.at 0) 0 from Xu (a:=0),g.J.L4,m];rfl
  have S:=Yf g k g.J.F_ (a:=3) (q:=⟨9,[109,97,105,110,46,48],0,[pw 0,nw 1,nw 2]⟩) (by rw[i];rfl) (by show Gd (e.at 0) (pw 0)=L;exact Xr (by rw[p];decide))
  have y:AL CN e 0 3=⟨9,[109,97,105,110,46,48],0,[pw 0,nw 1,nw 2]⟩:=by unfold AL;rw[i];rfl
  have U:Am CN e 0 3 0=Di:=by unfold Am;rw[I9,y];exact p
  exact((g.J.Ao 0 3 g.J.F_ S).EO (by rw[y];exact .j B)).2.1 (by rw[U];decide)
 |v+1=>by
  obtain⟨c,h,T⟩:=gZ g m w k v;have i:=(VD g h).2.2.1;have l:=bu g m h;have o:A9 (e.at c) (pw 0)=BQ (e.at c) 0:=Xu (a:=0);have J:=Yf g k h.1 (a:=0) (q:=⟨1,[],0,[pw 0]⟩) (by rw[i];rfl) (by show([pw 0].all (Gd (e.at c)))=L;rw[AiK,Xr (by rw[o];exact l.1)];rfl)
  have r:AL CN e c 0=⟨1,[],0,[pw 0]⟩:=by unfold AL;rw[i];rfl
  have W:(Bg (e.at c) 0 0).Ai≠0:=by
   have H:=g.J.Ao c 0 h.1 J;rw[H.Q4 (by rw[r];exact .i B),r];have Z:Dr CN e c 0=[BQ (e.at c) 0]:=by unfold Dr;rw[r];show[A9 (e.at c) (pw 0)]=_;rw[o]
   rw[Z];show(KF _ (BQ (e.at c) 0)).Ai≠0;unfold KF;rw[Ad l.2];show(1:K)≠0;decide
  have F:A9 (e.at c) (nw 0)=Bg (e.at c) 0 0:=Rf (a:=0) (b:=0);have M:=Yf g k h.1 (a:=1) (q:=⟨4,[108,101],0,[nw 0,nw 0]⟩) (by rw[i];rfl) (by show([nw 0,nw 0].all (Gd (e.at c)))=L;rw[AiK,AiK,Xr (by rw[F];exact W)];rfl)
  have s:AL CN e c 1=⟨4,[108,101],0,[nw 0,nw 0]⟩:=by unfold AL;rw[i];rfl
  have X:(Bg (e.at c) 1 0).Ai≠0:=by
   have I:=g.J.Ao c 1 h.1 M;rw[I.Q4 (by rw[s];exact .j (.j (.j (.i B)))),s];have Y:Dr CN e c 1=[Bg (e.at c) 0 0,Bg (e.at c) 0 0]:=by unfold Dr;rw[s];show[A9 (e.at c) (nw 0),A9 (e.at c) (nw 0)]=_;rw[F]
   rw[Y];show(Iu [108,101] [Bg (e.at c) 0 0,Bg (e.at c) 0 0]).Ai≠0;generalize Bg (e.at c) 0 0=G at*;unfold Iu;split
   .unfold EL;split;.omega
    .rename_i P Q;simp[Q]at P
   .show(Kw [108,101] G G).Ai≠0;unfold Kw;rw[Ad (by decide),Ad (by decide)];split;.exact(by decide:(5:Int)≠0)
    .rw[Ad (by decide),Af (by decide)];exact(by decide:(2:Int)≠0)
  have xa:A9 (e.at c) (nw 1)=Bg (e.at c) 1 0:=Rf (a:=1) (b:=0);have N:=Yf g k h.1 (a:=2) (q:=⟨5,[],0,[nw 1,pw 0]⟩) (by rw[i];rfl) (by show([nw 1,pw 0].all (Gd (e.at c)))=L;rw[AiK,AiK,Xr (by rw[xa];exact X),Xr (by rw[o];exact l.1)];rfl)
  have z:=(bv g m h (f:=2) (g:=pw 0) (by unfold AL;rw[i];rfl) N).1;rw[o]at z;have E:B8 CN (e.at c)=BQ (e.at c) 0:=by unfold B8;rw[i];show A9 (e.at c) (nw 2)=_;rw[show A9 (e.at c) (nw 2)=Bg (e.at c) 2 0 from Rf (a:=2) (b:=0),z]
  obtain⟨V,_⟩:=w.next c 0 3 h (by rw[i];decide) (by rw[E];exact l.1) (by rw[E];exact l.2);obtain⟨d,q,R⟩:=g.X.next h.1 V;exact⟨d,⟨R,q.AN.t h.2.1,q.Ao.t h.2.2⟩,by rw[q.As,T];omega⟩
end
theorem gW:DR CN=0:=by decide+kernel
theorem rm{m v b:D}(E:400<=m){c:Ah×K}(a:F7 CN m v b H6=A c):c.2=5:=by
 have z:DR CN=0->Bj CN:=λa=>GU a
 have l:=z gW
 have q:I2 (Il CN) H6=0:=by decide+kernel
 have r:(B1 H6.l H6.BO).2.2=0:=by decide+kernel
 have s:(Di::(B1 H6.l H6.BO).2.1)[0]? =A Di:=B
 unfold F7 at a
 cases f:HH CN m v H6 with
 |none=>rw[f]at a;cases a
 |some h=>
  rw[f]at a;have a:(if h.2≠0 then A h else Iy CN m v b h.1)=A c:=a;by_cases g:h.2=0
  .rw[Ad (λb=>b g)]at a;obtain⟨_,k,G,o,_,_,P⟩:=kW z E f g;have x:=Z1 (V3 l _ _ h.1) E k ⟨o,Mo.refl _⟩ G a;by_cases w:c.2=0
   .exfalso;have i:=x.1 w;have y:Ex CN (B1 H6.l H6.BO).1 (Di::(B1 H6.l H6.BO).2.1) c.1:=⟨i.K.X,i.q.1⟩;have H:=gZ y s i.Xb i.W0;have:=SP (λ(n d:D)=>By c.1 d 0 3/\(c.1.at d).As=(n:K)) (a:=List.range 401) (d:=List.range c.1.T.l) AjQ (λn _=>by obtain⟨d,k,N⟩:=H n;exact⟨d,AiT.2 k.1,k,N⟩) (λn Q d _ _ I J=>by have:=I.2;have:=J.2;omega)
    rw[Aip,Aip]at this;have:=y.X.W.sh.AX;omega
   .exact gX s w (x.2 w)
  .rw[Af g]at a;cases a;unfold HH at f;rw[Ad (λb=>b gW),Ad (λb=>b q),Ad (λb=>b r)]at f;obtain⟨o,_⟩:=mw l q r;have F:=YV (V3 l _ _ (FY CN H6)).toTl (Xk l q r) ⟨o,Mo.refl _⟩ f;exact gX s g (.i (F.bD g))
def rZ:CA []:=⟨by decide,λb a=>by cases a⟩
def RN{d:C Ab}{b:AS}{c:K}(j:CA d)(h:b.l.l<=2000000)(i:El b.l<=100000000)(k:c≠0)(a:(F7 d 400 2000001 6001 b).map (·.2)=A c):A2 8 [Z Ab.c d,.S (AS.c b)] (.AC [.S (Cv.c GR),.n c]):=by
 cases f:F7 d 400 2000001 6001 b with
 |none=>rw[f]at a;cases a
 |some g=>rw[f]at a;have a:A g.2=A c:=a;have a:g.2=c:=AiI a;have e:=Z2 j B b h i f;unfold Cj at e;rw[Af (by rw[a];exact k),a]at e;exact e
def i0:AS:=⟨[],[]⟩
def cN:AS:=⟨[Bv 41 0],[L]⟩
def cL:AS:=⟨[[1000000001]],[L]⟩
def Pc:AS:=⟨[[]],[L]⟩
def n8a:A2 8 [Z Ab.c [],.S (AS.c i0)] (.AC [.S (Cv.c GR),.n 9]):=RN rZ (by decide) (by decide) (by decide) (by kernel_rfl)
def n8b:A2 8 [Z Ab.c DF,.S (AS.c i0)] (.AC [.S (Cv.c GR),.n 2]):=RN PF (by decide) (by decide) (by decide) (by kernel_rfl)
def n8c:A2 8 [Z Ab.c DF,.S (AS.c cN)] (.AC [.S (Cv.c GR),.n 5]):=RN PF (by decide) (by decide) (by decide) (by kernel_rfl)
def n8d:A2 8 [Z Ab.c DF,.S (AS.c cL)] (.AC [.S (Cv.c GR),.n 3]):=RN PF (by decide) (by decide) (by decide) (by kernel_rfl)
def n18:A2 18 [Z Ab.c DF,.S (AS.c Pc),.n (-1)] (.AC [.S [.CZ [],.CZ [],.n 0,.n 0],.n 3]):=
 R6 B B (SR (g:=[]) λb a=>by cases a) (by kernel_rfl)
def n11:A2 11 [Z Ab.c DF,.S (AS.c Pc),Z Bq [0,-1]] (.AC [.S (Cv.c GR),Z A8.c [],.n 3]):=by
 obtain⟨d,c⟩:=kZ (c:=DF) (d:=400) (e:=2000001) (a:=6001) (by omega) (by omega) Pc [0,-1];have a:=ch PF B Pc (by decide) (by decide) (h:=[0,-1]) (by decide) c;have b:GF DF [0,-1] d=(GR,[],3):=by unfold GF;rw[Ad (by decide+kernel),Af (by decide)]
 rw[b]at a;exact a
def aM{b:AS}{d:C Bc}{c:AH}{e:Cr}{h:K}(j:b.l.l<=2000000)(k:El b.l<=100000000)(a:(F7 DF 400 2000001 6001 b).map (λg=>RB g d c)=A (e,h)):A2 19 [Z Ab.c DF,.S (AS.c b),Z Bc.c d,.S (AH.c c)] (.AC [.S (Cr.c e),.n h]):=by
 cases f:F7 DF 400 2000001 6001 b with
 |none=>rw[f]at a;cases a
 |some g=>rw[f]at a;have a:A (RB g d c)=A (e,h):=a;have a:=AiI a;have i:=om PF B b j k d c f;rw[a]at i;exact i
def Aba:A2 19 [Z Ab.c DF,.S (AS.c H6),Z Bc.c [⟨3,2⟩],.S (AH.c ⟨-1,0⟩)] (.AC [.S (Cr.c Q2),.n 7]):=aM (by decide) (by decide) (by kernel_rfl)
def Abb:A2 19 [Z Ab.c DF,.S (AS.c H6),Z Bc.c [],.S (AH.c ⟨4,0⟩)] (.AC [.S (Cr.c Q2),.n 7]):=aM (by decide) (by decide) (by kernel_rfl)
def Abc:A2 19 [Z Ab.c DF,.S (AS.c H6),Z Bc.c [⟨3,1⟩],.S (AH.c ⟨-1,2⟩)] (.AC [.S (Cr.c ⟨[⟨1,2⟩],[]⟩),.n 0]):=aM (by decide) (by decide) (by kernel_rfl)
def eq:B0:=[109,97,105,110]
def am:Ab:=⟨eq,1,[⟨1,[],1,[pw 0]⟩,⟨10,[],0,[nw 0]⟩,⟨1,[],0,[pw 0]⟩,⟨11,[],0,[nw 1,nw 2,nw 0]⟩,⟨11,[],0,[nw 1,nw 2,nw 0]⟩],[],[]⟩
def Zm:Ab:=⟨eq,1,[⟨6,[],0,[pw 0,pw 0]⟩],[],[]⟩
def OK:Ab:=⟨eq,1,[⟨1,[],1,[pw 0]⟩,⟨10,[],0,[nw 0]⟩,⟨1,[],0,[pw 0]⟩,⟨12,[],0,[nw 1,nw 2]⟩],[],[nw 3,nw 1]⟩
def Ae3:CA [am]:=by refine⟨by decide,λc b=> ?_⟩;rw[Ai3.1 b];refine⟨by decide,by decide,by decide,by decide,by decide,λd a=> ?_⟩;simp only[am,Ait,Ai6,Ai7]at a;rcases a with rfl|rfl|rfl|rfl|rfl<;>exact⟨by grind,by decide⟩
def Aa0:CA [Zm]:=by refine⟨by decide,λc b=> ?_⟩;rw[Ai3.1 b];refine⟨by decide,by decide,by decide,by decide,by decide,λd a=> ?_⟩;simp only[Zm,Ait,Ai6,Ai7]at a;rcases a with rfl<;>exact⟨by grind,by decide⟩
def Afn:CA [OK]:=by refine⟨by decide,λc b=> ?_⟩;rw[Ai3.1 b];refine⟨by decide,by decide,by decide,by decide,by decide,λd a=> ?_⟩;simp only[OK,Ait,Ai6,Ai7]at a;rcases a with rfl|rfl|rfl|rfl<;>exact⟨by grind,by decide⟩
def rl:CA CN:=by
 refine⟨by decide,λa c=> ?_⟩;have:a=PD\/a=Qk:=by simpa[CN]using c
 rcases this with rfl|rfl;.exact PF.2 _ (by simp[DF])
 .refine⟨by decide,by decide,by decide,by decide,by decide,λd b=> ?_⟩;simp only[Qk,Ait,Ai6,Ai7]at b;rcases b with rfl|rfl|rfl|rfl|rfl|rfl|rfl|rfl<;>exact⟨by grind,by grind⟩
def oj:Cv:=⟨[⟨5,3⟩],[],9,2,0,4,[]⟩
def ow:Cv:=⟨[⟨0,0⟩,⟨4,0⟩],[[⟨0,0⟩]],4,1,1,3,[⟨[],3⟩]⟩
def n8j:A2 8 [Z Ab.c DF,.S (AS.c Pc)] (.AC [.S (Cv.c oj),.n 0]):=Z3 (by decide) (by decide) (by kernel_rfl)
def n8k:A2 8 [Z Ab.c CN,.S (AS.c H6)] (.AC [.S (Cv.c GR),.n 5]):=by obtain⟨b,a⟩:=hw (b:=CN) (c:=400) (d:=2000001) (a:=6001) (by omega) (by omega) H6;refine RN rl (by decide) (by decide) (by decide) ?_;rw[a];show A b.2=A 5;rw[rm (by omega) a]
def n8l:A2 8 [Z Ab.c [am],.S (AS.c i0)] (.AC [.S (Cv.c GR),.n 6]):=RN Ae3 (by decide) (by decide) (by decide) (by kernel_rfl)
def n8m:A2 8 [Z Ab.c [Zm],.S (AS.c i0)] (.AC [.S (Cv.c GR),.n 6]):=RN Aa0 (by decide) (by decide) (by decide) (by kernel_rfl)
def n8n:A2 8 [Z Ab.c [OK],.S (AS.c i0)] (.AC [.S (Cv.c ow),.n 0]):=by
 have a:(F7 [OK] 400 2000001 6001 i0).map (λb=>(b.2,L3 [OK] b.1))=A (0,⟨[⟨0,0⟩,⟨4,0⟩],[[⟨0,0⟩]]⟩,4,1,1,3,[⟨[],3⟩]):=by kernel_rfl
 cases d:F7 [OK] 400 2000001 6001 i0 with
 |none=>rw[d]at a;cases a
 |some b=>
  rw[d]at a;have a:A (b.2,L3 [OK] b.1)=A (0,⟨[⟨0,0⟩,⟨4,0⟩],[[⟨0,0⟩]]⟩,4,1,1,3,[⟨[],3⟩]):=a;have a:=AiI a;have m:b.2=0:=Aij (·.1) a;have c:L3 [OK] b.1=(⟨[⟨0,0⟩,⟨4,0⟩],[[⟨0,0⟩]]⟩,4,1,1,3,[⟨[],3⟩]):=Aij (·.2) a;have e:=Z2 Afn B i0 (by decide) (by decide) d;have l:Cj [OK] b=(ow,0):=by unfold Cj;rw[Ad (λn=>n m)];unfold L3 at c;simp only[Aj2]at c;obtain⟨f,g,h,i,j,k⟩:=c;unfold Ec L7;rw[k,f,g,h,i,j];unfold Xf ow;simp
  rw[l]at e;exact e
def n22:A2 22 [.n 3] (.S (M.c (D2 3))):=R6 B B (SR (g:=[]) λb a=>by cases a) (by kernel_rfl)
def n23:A2 23 [.n 0] (.S (M.c (DB 0))):=R6 B B (SR (g:=[]) λb a=>by cases a) (by kernel_rfl)
def n20:A2 20 [.S (Gs [⟨0,0⟩,⟨4,0⟩] [[⟨0,0⟩]]),.S (Gs [⟨0,0⟩,⟨4,0⟩] [[⟨0,0⟩]])] (.b L):=by have:=cp [⟨0,0⟩,⟨4,0⟩] [⟨0,0⟩,⟨4,0⟩] [[⟨0,0⟩]] [[⟨0,0⟩]] (by decide) (by decide) (by decide);rw[Be B,Be B]at this;exact this
def T5:C (D×C F×F):=[
 (8,[Z Ab.c [],.S (AS.c i0)],.AC [.S (Cv.c GR),.n 9]),(8,[Z Ab.c DF,.S (AS.c i0)],.AC [.S (Cv.c GR),.n 2]),
 (8,[Z Ab.c DF,.S (AS.c cN)],.AC [.S (Cv.c GR),.n 5]),(8,[Z Ab.c DF,.S (AS.c cL)],.AC [.S (Cv.c GR),.n 3]),
 (18,[Z Ab.c DF,.S (AS.c Pc),.n (-1)],.AC [.S [.CZ [],.CZ [],.n 0,.n 0],.n 3]),
 (11,[Z Ab.c DF,.S (AS.c Pc),Z Bq [0,-1]],.AC [.S (Cv.c GR),Z A8.c [],.n 3]),
 (19,[Z Ab.c DF,.S (AS.c H6),Z Bc.c [⟨3,2⟩],.S (AH.c ⟨-1,0⟩)],.AC [.S (Cr.c Q2),.n 7]),
 (19,[Z Ab.c DF,.S (AS.c H6),Z Bc.c [],.S (AH.c ⟨4,0⟩)],.AC [.S (Cr.c Q2),.n 7]),
 (19,[Z Ab.c DF,.S (AS.c H6),Z Bc.c [⟨3,1⟩],.S (AH.c ⟨-1,2⟩)],.AC [.S (Cr.c ⟨[⟨1,2⟩],[]⟩),.n 0]),
 (8,[Z Ab.c DF,.S (AS.c Pc)],.AC [.S (Cv.c oj),.n 0]),(8,[Z Ab.c CN,.S (AS.c H6)],.AC [.S (Cv.c GR),.n 5]),
 (8,[Z Ab.c [am],.S (AS.c i0)],.AC [.S (Cv.c GR),.n 6]),(8,[Z Ab.c [Zm],.S (AS.c i0)],.AC [.S (Cv.c GR),.n 6]),(8,[Z Ab.c [OK],.S (AS.c i0)],.AC [.S (Cv.c ow),.n 0]),
 (17,[.b L,Z Bq (Bv 41 0)],.S (AS.c cN)),(17,[.b L,Z Bq [1000000001]],.S (AS.c cL)),(17,[.b L,Z Bq []],.S (AS.c Pc)),(17,[.b L,Z Bq [1]],.S (AS.c H6)),
 (21,[.n 2],.S (M.c (Ed 2))),(22,[.n 3],.S (M.c (D2 3))),(23,[.n 0],.S (M.c (DB 0))),
 (20,[.S (Gs [⟨1,2⟩] []),.S (Gs [⟨1,2⟩] [])],.b L),(20,[.S (Gs [⟨0,0⟩,⟨4,0⟩] [[⟨0,0⟩]]),.S (Gs [⟨0,0⟩,⟨4,0⟩] [[⟨0,0⟩]])],.b L),
 (7,[],.b L)]
def nz:∀a∈T5,A2 a.1 a.2.1 a.2.2:=λa b=>by
 unfold T5 at b;simp only[Ait,Ai6,Ai7]at b;rcases b with rfl|rfl|rfl|rfl|rfl|rfl|rfl|rfl|rfl|rfl|rfl|rfl|rfl|rfl|rfl|rfl|rfl|rfl|rfl|rfl|rfl|rfl|rfl|rfl;.exact n8a
 .exact n8b
 .exact n8c
 .exact n8d
 .exact n18
 .exact n11
 .exact Aba
 .exact Abb
 .exact Abc
 .exact n8j
 .exact n8k
 .exact n8l
 .exact n8m
 .exact n8n
 .exact R3 L (Bv 41 0) (by decide)
 .exact R3 L [1000000001] (by decide)
 .exact R3 L [] (by decide)
 .exact R3 L [1] (by decide)
 .exact R4 2
 .exact n22
 .exact n23
 .exact cq _ (by decide)
 .exact n20
 .exact g6
