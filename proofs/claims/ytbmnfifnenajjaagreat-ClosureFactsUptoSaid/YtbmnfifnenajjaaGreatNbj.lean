/- Part of the proof. -/
import Derived.Sort.LotD3
import Derived.Test.YtbmnfifnenajjaaGreatNbi
set_option linter.all false
noncomputable section
open Option renaming some->A,none->O,getD->Option.g,bind->Option.b
open _root_ renaming rfl->B,List->C,Nat->D,Int->K,if_neg->Ad,if_pos->Af,Bool->Ah,cond->Aj,decide_eq_true->A0,decide_eq_false->A2,Array->Bg,absurd->BF
open Bool renaming true->L,false->Aa
open Decidable renaming decide->Ao
open Nat renaming beq->AW,ble->BX,le_refl->CK
open List renaming length->List.l,take->List.t,flatMap->List.f
open Go.IntKind renaming i64->Go.IntKind.n
open Array renaming toList->Array.l,size->Array.z
open Eq renaming trans->Eq.t,symm->Eq.s
open Or renaming inl->Or.i
open Int renaming toNat->Int.n
namespace Go.Proofs.YtbmnfifnenajjaaGreat
open Go.Fg Go.Sort
variable{a:D}
def Zm(b:a<1000000000):A6 .sub [.n a,.n 1]=A (.n (a-1)):=FA (by omega) (by omega)
def jV(d c:D):∀(b:D)(a:Bg _),(heapBuild BL d c b a).z=a.z
 |0,a=>rfl
 |b+1,a=>by unfold heapBuild;rw[jV _ _ b,VP _ _ _ b a (CK _)]
def dU{h:C _}{l:G}{f:F}(d c:D):∀(a:D){e:G}{b:Bg _},SI h l f e b->c+d<=b.z->b.z<100000000->a<100000000->∃j,jj W9 212 5 [.n (a-1),.n d,f,.n 0,.n c,.f (pos 85) []] e=jj W9 212 4 [.n d,f,.n 0,.n c,.f (pos 85) []] j/\SI h l f j (heapBuild BL d c a b)
 |0,e,b,g,m,n,s=>by
  have i:¬0<=((0:D):K)-1:=by omega
  refine⟨e,?_,g⟩;rw[Nn.2.2.1];simp only[↓Q,↓QT,AdM,i]
 |a+1,e,b,g,m,n,s=>by
  have q:(a+1:D)-1=(a:K):=by omega
  rw[q];have i:0<=(a:K):=by omega
  let⟨t,_,o⟩:=f0 g (b:=a) m n (by omega)
  have u:=VP _ c (d-a) a b (CK _);let⟨r,_,p⟩:=dU d c a o (by grind) (by grind) (by omega)
  refine⟨r,?_,p⟩;rw[Nn.2.2.1];simp only[QY,Nn.2.2.2.1,Nn.2.2.2.2.1,H (Zm (a:=a) (by omega)), *]
def iU{l:C WE}{o:G}{g:F}(d:D):∀(c:D){f:G}{e:Bg WE},SI l o g f e->d+c<=e.z->d<e.z->e.z<100000000->∃n,jj W9 212 1 [g,.n 0,.n d,.f (pos 85) [],.n (c-1)] f=A (.AB [],n)/\SI l o g n (heapPop BL d c e)
 |0,f,e,h,y,p,z=>by
  have m:¬0<=((0:D):K)-1:=by omega
  refine⟨f,?_,h⟩;rw[Nn.2.2.2.2.2.1];simp only[↓Q,↓QT,AdM,m]
 |c+1,f,e,h,y,p,z=>by
  have u:(c+1:D)-1=(c:K):=by omega
  rw[u];have m:0<=(c:K):=by omega
  have S:=Mx (a:=d) (b:=c) (by omega);let⟨T,v,I,J,M,N,P,R,r⟩:=h.KM (d:=d) (c:=d+c) p (by omega)
  let⟨w,q,s⟩:=f0 r (b:=0) (a:=c) (d:=d) (by rw[size_swp];omega) (by rw[size_swp];grind) (by omega)
  have q:W9 (pos 250) [g,.n 0,.n (c:K),.n (d:K),.f (pos 85) []] v=A (.AB [],w):=q;have E:=VP c d (c-0) 0 (swp e d (d+c)) Om;rw[size_swp]at E;let⟨x,_,t⟩:=iU d c s (by grind) (by grind) (by grind)
  refine⟨x,?_,t⟩;rw[Nn.2.2.2.2.2.1];simp only[QY,Nn.2.2.2.2.2.2.1,Nn.2.2.2.2.2.2.2,H (Zm (a:=c) (by omega)), *]
variable{c d:D}{j:G}
def pX{g:C _}{h:G}{f:F}{e:Bg _}(l:SI g j f h e)(r:c<d)(s:d<=e.z)(p:e.z<100000000):∃i,W9 (pos 212) [f,.n c,.n d,.f (pos 85) []] h=A (.AB [],i)/\SI g j f i (heapSort BL e c d):=by
 have t:=Mu (a:=d) (b:=c) (by omega) (by omega);have u:=Zm (a:=d-c) (by omega);have v:A6 .quo [.n ((d-c:D)-1),.n 2]=A (.n ((((d-c-1)/2+1:D))-1)):=by have:=VC (a:=d-c-1) (b:=2) (by omega) (by omega);grind
 let⟨q,_,m⟩:=dU (d-c) c ((d-c-1)/2+1) l (by omega) p (by omega)
 have w:=jV (d-c) c ((d-c-1)/2+1) e;let⟨o,_,n⟩:=iU c (d-c) m (by grind) (by grind) (by grind)
 refine⟨o,AZ B B ?_,n⟩;rw[Nn.1];simp only[QY,Nn.2.1, *]
def ju{g:C _}{m:G}{f:F}:∀(d a b:D){e:G}{c:Bg _},b-a<=d->SI g m f e c->b<c.z->a<100000000->c.z<100000000->∃l,jj W9 215 1 [f,.n a,.n b] e=A (.AB [],l)/\SI g m f l (reverseLoop a b c)
 |d,a,b,e,c,y,n,q,x,z=>by
  by_cases h:a<b
  .cases d with
   |zero=>omega
   |succ d=>
   have k:a<(b:K):=by omega
   let⟨w,_,_,_,s,t,u,v,o⟩:=n.KM (d:=a) (c:=b) (by omega) q
   let⟨p,E,r⟩:=ju d (a+1) (b-1) (by omega) o (by rw[size_swp];omega) (by omega) (by rw[size_swp];grind)
   refine⟨p,?_,?_⟩
   .rw[Xt.2.1];simp only[QY,Xt.2.2,H (Bh (a:=a) (by omega)),H (JU (a:=b) (by omega) (by omega)), *]
   .rw[reverseLoop,Af h];grind
  .have k:¬a<(b:K):=by omega
   refine⟨e,?_,?_⟩;.rw[Xt.2.1];simp only[↓Q,↓QT,AdM,k]
   .rw[reverseLoop,Ad h];grind
variable{b:D}
def p0{e:C _}{h f:G}{d:F}{c:Bg WE}(i:SI e h d f c)(o:b<a)(p:a<=c.z)(m:c.z<100000000):∃g,W9 (pos 215) [d,.n b,.n a,.f (pos 85) []] f=A (.AB [],g)/\SI e h d g (reverseRange c b a):=by
 let⟨l,n,k⟩:=ju (a-1-b) b (a-1) Om i (by omega) (by omega) m
 refine⟨l,AZ B B ?_,k⟩;rw[Xt.1];simp only[↓H (JU (a:=a) (by omega) (by omega)),n]
def jJ{o:C WE}{r:G}{l:F}(n m:F)(b:D):∀(e a:D){k:G}{c:Bg WE},b-a<=e->SI o r l k c->1<=a->a<=b->b<=c.z->c.z<100000000->∃q,jj W9 216 16 [n,m,.n a,.n b,.f (pos 85) [],l] k=jj W9 216 15 [n,m,.n (scanSorted BL c b a),.n b,.f (pos 85) [],l] q/\SI o r l q c/\a<=scanSorted BL c b a/\scanSorted BL c b a<=b
 |e,a,k,c,N,f,J,M,v,w=>by
  by_cases y:a<b
  .cases e with
   |zero=>omega
   |succ e=>
   have g:a<(b:K):=by omega
   let⟨P,V⟩:=f.rd (a:=a) (by omega)
   let⟨R,W⟩:=f.rd (a:=a-1) (by omega)
   let⟨t,S,p⟩:=f.Mc (k:=a) (l:=a-1) (by omega) (by omega)
   have z:=JU (a:=a) (by omega) (by omega)
   have I:DE [.b L]=A (.b Aa):=B
   have E:DE [.b Aa]=A (.b L):=B
   by_cases h:D6 c[a]!.2 c[a-1]!.2<0
   .have d:scanSorted BL c b a=a:=by
     rw[scanSorted,Ad]
     rw[AdO,IK,A0 h]
     grind
    refine⟨t,?_,p,by grind,by grind⟩
    rw[d,Ea.2.2.2.2.2.2.1]
    simp only[Q,QT,g,Yc,h,ZR, *]
   .have d:scanSorted BL c b a=scanSorted BL c b (a+1):=by
     conv=>lhs;rw[scanSorted]
     rw[Af]
     rw[AdO,AdV,IK,A2 h]
     grind
    let⟨u,x,s,T,U⟩:=jJ n m b e (a+1) (by omega) p (by omega) (by omega) v w
    refine⟨u,?_,s,by grind,by grind⟩
    rw[d,Ea.2.2.2.2.2.2.1]
    simp only[Q,QT,AdM,g,Yc,h,Ea.2.2.2.2.2.2.2.1,H (Bh (a:=a) (by omega)),x,ZR, *]
  .have g:¬a<(b:K):=by omega
   have d:scanSorted BL c b a=a:=by rw[scanSorted,Ad];grind
   refine⟨k,?_,f,by grind,by grind⟩;rw[d,Ea.2.2.2.2.2.2.1];simp only[↓Q,↓QT,AdM,g]
def jW:∀(b:D)(a:Bg _),(shiftDown BL b a).z=a.z
 |0,a=>rfl
 |b+1,a=>by
  unfold shiftDown;split;.rfl
  .rw[jW b,size_swp]
def jX(c:D):∀(d b:D)(a:Bg _),c-b<=d->(shiftUp BL c b a).z=a.z
 |0,b,a,e=>by rw[shiftUp,Ad (by omega)]
 |d+1,b,a,e=>by
  rw[shiftUp];split
  .split;.rfl
   .rw[jX c d _ _ (by omega),size_swp]
  omega
def ev{o:C WE}{q:G}{h:F}(m k n l:F):∀(a:D){d:G}{b:Bg WE},SI o q h d b->a<b.z->b.z<100000000->∃p,jj W9 216 9 [.n a,m,k,n,l,.f (pos 85) [],h] d=jj W9 216 8 [m,k,n,l,.f (pos 85) [],h] p/\SI o q h p (shiftDown BL a b)
 |0,d,b,c,g,v=>by
  have e:¬1<=((0:D):K):=by omega
  refine⟨d,?_,c⟩;rw[Ea.2.2.2.2.2.2.2.2.2.2.2.1];simp only[↓Q,↓QT,AdM,e]
 |a+1,d,b,c,g,v=>by
  have e:1<=((a+1:D):K):=by omega
  let⟨J,N⟩:=c.rd g
  let⟨M,P⟩:=c.rd (a:=a) (by omega)
  let⟨t,w,r⟩:=c.Mc g (l:=a) (by omega)
  rw[Kv]at w;have z:=Zk (a:=a) (by omega);have H:DE [.b L]=A (.b Aa):=B;have E:DE [.b Aa]=A (.b L):=B;by_cases f:D6 b[a+1]!.2 b[a]!.2<0
  .let⟨I,_,_,_,_,_,_,_,s⟩:=r.KM g (c:=a) (by omega)
   let⟨u,x,y⟩:=ev m k n l a s (by rw[size_swp];omega) (by rw[size_swp];grind)
   refine⟨u,?_,?_⟩;.rw[Ea.2.2.2.2.2.2.2.2.2.2.2.1];simp only[QY,Kv,e,Ea.2.2.2.2.2.2.2.2.2.2.2.2.1,f,Ea.2.2.2.2.2.2.2.2.2.2.2.2.2.2.1,Ea.2.2.2.2.2.2.2.2.2.2.2.2.2.1,x, *]
   .have:shiftDown BL (a+1) b=shiftDown BL a (swp b (a+1) a):=by
     show(if _ then _ else _)=_
     rw[IK,A0 f,Ad (by grind)]
    grind
  .refine⟨t,?_,?_⟩;.rw[Ea.2.2.2.2.2.2.2.2.2.2.2.1];simp only[QY,Kv,e,Ea.2.2.2.2.2.2.2.2.2.2.2.2.1,f, *]
   .have:shiftDown BL (a+1) b=b:=by
     show(if _ then _ else _)=_
     rw[IK,A2 f,Af (by grind)]
    grind
def ku{p:C WE}{r:G}{h:F}(m k n:F)(b:D):∀(d a:D){g:G}{c:Bg WE},b-a<=d->SI p r h g c->1<=a->b<=c.z->c.z<100000000->∃q,jj W9 216 4 [.n a,m,k,n,.n b,.f (pos 85) [],h] g=jj W9 216 3 [m,k,n,.n b,.f (pos 85) [],h] q/\SI p r h q (shiftUp BL b a c)
 |d,a,g,c,P,l,N,M,R=>by
  by_cases o:a<b
  .cases d with
   |zero=>omega
   |succ d=>
   have e:a<(b:K):=by omega
   let⟨S,U⟩:=l.rd (a:=a) (by omega)
   let⟨T,V⟩:=l.rd (a:=a-1) (by omega)
   let⟨u,w,s⟩:=l.Mc (k:=a) (l:=a-1) (by omega) (by omega)
   rw[Kv]at w
   have z:=JU (a:=a) (by omega) (by omega)
   have I:DE [.b L]=A (.b Aa):=B
   have E:DE [.b Aa]=A (.b L):=B
   by_cases f:D6 c[a]!.2 c[a-1]!.2<0
   .let⟨J,_,_,_,_,_,_,_,t⟩:=s.KM (d:=a) (c:=a-1) (by omega) (by omega)
    let⟨v,x,y⟩:=ku m k n b d (a+1) (by omega) t (by omega) (by rw[size_swp];grind) (by rw[size_swp];grind)
    refine⟨v,?_,?_⟩;.rw[Ea.2.2.2.2.2.2.2.2.2.2.2.2.2.2.2.1];simp only[QY,Kv,e,Ea.2.2.2.2.2.2.2.2.2.2.2.2.2.2.2.2.1,f,Ea.2.2.2.2.2.2.2.2.2.2.2.2.2.2.2.2.2.2,Ea.2.2.2.2.2.2.2.2.2.2.2.2.2.2.2.2.2.1,H (Bh (a:=a) (by omega)),x, *]
    .rw[shiftUp,Af o,IK,A0 f,Ad (by grind)];grind
   .refine⟨u,?_,?_⟩;.rw[Ea.2.2.2.2.2.2.2.2.2.2.2.2.2.2.2.1];simp only[QY,Kv,e,Ea.2.2.2.2.2.2.2.2.2.2.2.2.2.2.2.2.1,f, *]
    .rw[shiftUp,Af o,IK,A2 f,Af (by grind)];grind
  .have e:¬a<(b:K):=by omega
   refine⟨g,?_,?_⟩;.rw[Ea.2.2.2.2.2.2.2.2.2.2.2.2.2.2.2.1];simp only[↓Q,↓QT,AdM,e]
   .rw[shiftUp,Ad o];grind
def bO{q:C _}{s:G}{m:F}(e c:D):∀(l f g:D){o:G}{h:Bg _},l+f=5->SI q s m o h->e<g->g<=c->c<=h.z->h.z<100000000->∃p,jj W9 216 2 [.n (e:K),.n (g:K),.n (c:K),.f (pos 85) [],m,.n (f:K)] o=A (.b (partialIns BL e c l g h).2,p)/\SI q s m p (partialIns BL e c l g h).1
 |0,f,g,o,h,xb,v,xa,T,S,U=>by
  have y:¬(f:K)<5:=by omega
  refine⟨o,?_,v⟩;rw[Ea.2.2.1];simp only[↓Q,↓QT,AdM,y,Ea.2.1];rfl
 |l+1,f,g,o,h,xb,v,xa,T,S,U=>by
  have y:(f:K)<5:=by omega
  let⟨R,xc,w,xp,xq⟩:=jJ (.n (f:K)) (.n (e:K)) c (c-g) g Om v (by omega) T S U
  unfold partialIns;generalize scanSorted BL h c g=d at*;simp only[];by_cases I:d=c
  .have J:(d:K)=(c:K):=by omega
   rw[Af I];refine⟨R,?_,w⟩;rw[Ea.2.2.1];simp only[↓Q,↓QT,y,Ea.2.2.2.1,xc,Ea.2.2.2.2.2.1,J]
  rw[Ad I];have J:¬(d:K)=(c:K):=by omega
  have xr:=Mu (a:=c) (b:=e) (by omega) (by omega);by_cases M:c-e<50
  .have X:((c-e:D):K)<50:=by omega
   rw[Af M];refine⟨R,?_,w⟩;rw[Ea.2.2.1];simp only[QY,Ea.2.2.2.1,Ea.2.2.2.2.2.1,Ea.2.2.2.2.2.2.2.2.1, *]
  rw[Ad M];have X:¬((c-e:D):K)<50:=by omega
  let⟨xl,xm,xf,xg,xh,xi,xj,xk,E⟩:=w.KM (d:=d) (c:=d-1) (by omega) (by omega)
  have xe:=JU (a:=d) (by omega) (by omega);have xs:=Mu (a:=d) (b:=e) (by omega) (by omega);have xt:=Mu (a:=c) (b:=d) (by omega) (by omega);have W:∀{k:Bg WE}{t:G},SI q s m t k->k.z=h.z->∃p,jj W9 216 8 [.n (f:K),.n (e:K),.n (d:K),.n (c:K),.f (pos 85) [],m] t=A (.b (partialIns BL e c l d (if c-d>=2 then shiftUp BL c (d+1) k else k)).2,p)/\SI q s m p (partialIns BL e c l d (if c-d>=2 then shiftUp BL c (d+1) k else k)).1:=by
   intro k t r xn;by_cases P:c-d>=2
   .have Z:(2:K)<=((c-d:D):K):=by omega
    rw[Af P];let⟨u,V,n⟩:=ku (.n (f:K)) (.n (e:K)) (.n (d:K)) c (c-(d+1)) (d+1) Om r (by omega) (by omega) (by omega)
    have xu:=jX c (c-(d+1)) (d+1) k Om;let⟨z,xd,x⟩:=bO e c l (f+1) d (by omega) n (by omega) (by omega) (by omega) (by omega)
    refine⟨z,?_,x⟩;rw[Ea.2.2.2.2.2.2.2.2.2.2.1];simp only[QY,H (Bh (a:=d) (by omega)),Ea.2.2.2.2.1,H (Bh (a:=f) (by omega)), *]
   .have Z:¬(2:K)<=((c-d:D):K):=by omega
    rw[Ad P];let⟨z,xd,x⟩:=bO e c l (f+1) d (by omega) r (by omega) (by omega) (by omega) (by omega)
    refine⟨z,?_,x⟩;rw[Ea.2.2.2.2.2.2.2.2.2.2.1];simp only[QY,Ea.2.2.2.2.1,H (Bh (a:=f) (by omega)), *]
  by_cases N:d-e>=2
  .have Y:(2:K)<=((d-e:D):K):=by omega
   rw[Af N];let⟨t,xo,r⟩:=ev (.n (f:K)) (.n (e:K)) (.n (d:K)) (.n (c:K)) (d-1) E (by rw[size_swp];omega) (by rw[size_swp];grind)
   let⟨u,V,n⟩:=W r (by rw[jW,size_swp])
   refine⟨u,?_,n⟩;rw[Ea.2.2.1];simp only[QY,Ea.2.2.2.1,Ea.2.2.2.2.2.1,Ea.2.2.2.2.2.2.2.2.1,Ea.2.2.2.2.2.2.2.2.2.1, *]
  .have Y:¬(2:K)<=((d-e:D):K):=by omega
   rw[Ad N];let⟨u,V,n⟩:=W E (by rw[size_swp])
   refine⟨u,?_,n⟩;rw[Ea.2.2.1];simp only[QY,Ea.2.2.2.1,Ea.2.2.2.2.2.1,Ea.2.2.2.2.2.2.2.2.1,Ea.2.2.2.2.2.2.2.2.2.1, *]
variable{e:G}
def p1{g:C _}{d:F}{c:Bg _}(l:SI g j d e c)(p:a<b)(n:b<=c.z)(o:c.z<100000000):∃h,W9 (pos 216) [d,.n a,.n b,.f (pos 85) []] e=A (.b (partialInsertionSort BL c a b).2,h)/\SI g j d h (partialInsertionSort BL c a b).1:=by
 let⟨k,f,m⟩:=bO a b 5 0 (a+1) B l (by omega) (by omega) n o
 have f:jj W9 216 2 [.n a,.n (a+1:D),.n b,.f (pos 85) [],d,.n 0] e=A (.b (partialInsertionSort BL c a b).2,k):=f;refine⟨k,AZ B B ?_,m⟩;rw[Ea.1];simp only[↓H (Bh (a:=a) (by omega)),f]
def RE(p f:Ah)(n o e m d g:F)(c:G)(k l:G->R):R:=
 (A6 .leq [n,o]).b λa=>
 (Aj (A1 L a) (A m) (A AC)).b λq=>
 (Aj (A1 L a) (A g) (A AC)).b λt=>
 (Aj (A1 L a) (A (Aj f d e)) (A AC)).b λu=>
 (Aj (A1 L a) (AR 2 [t,u]) (A AC)).b λi=>
 (Aj (A1 L a) (A9 2 c [i]) (A AC)).b λj=>
 (Aj (A1 L a) (A g) (A AC)).b λv=>
 (Aj (A1 L a) (A (Aj f e d)) (A AC)).b λw=>
 (Aj (A1 L a) (AR 2 [v,w]) (A AC)).b λx=>
 (Aj (A1 L a) (A9 2 c [x]) (A AC)).b λy=>
 (Aj (A1 L a) ((C8 W9 q [j,y] c).b λb=>Aj (C0 8191 b.2 (C2 (A1 L a) ⟨8,.ld 2,[i],j⟩ [])) (A b) O) (A (AC,c))).b λb=>
 (Aj (A1 L a) (A6 .lss [b.1,.n 0]) (A AC)).b λh=>
 (Aj p (Aj (A1 L a) (DE [h]) (A AC)) (A h)).b λr=>
 (DY [a,r,.b Aa]).b λs=>Da (k b.2) (l b.2) s
def VL(d c:Ah)(a b:WE):Ah:=Aj d (!Aj c (BL b a) (BL a b)) (Aj c (BL b a) (BL a b))
variable{g:F}
def cn{e k:Ah}{j i l:F}{d:G}{f c:G->R}(m:¬a<=b):RE e k (.n a) (.n b) j i g l d f c=c d:=by
 have h:¬a<=(b:K):=by omega
 unfold RE;cases e<;>simp only[↓Q,↓QT,AdM,h,_root_.cond_true,_root_.cond_false]
variable{s:G}
def jI{q:C WE}{t:G}{p:F}{a:Bg WE}(g:SI q t p s a)(h o:Ah){m n:D}(v:m<=n)(l:d<a.z)(k:c<a.z):∃b,SI q t p b a/\∀e f,RE h o (.n m) (.n n) (.n d) (.f (pos 85) []) (.n c) p s e f=Aj (VL h o a[d]! a[c]!) (e b) (f b):=by
 have r:m<=(n:K):=by omega
 let⟨y,E⟩:=g.rd l
 let⟨z,H⟩:=g.rd k
 have x:DE [.b L]=A (.b Aa):=B
 have w:DE [.b Aa]=A (.b L):=B
 cases o with
 |false=>
  let⟨b,u,i⟩:=g.Mc l k
  refine⟨b,i,λe f=> ?_⟩;unfold RE VL;by_cases j:D6 a[d]!.2 a[c]!.2<0<;>cases h<;>simp only[Q,QT,AdM,r,_root_.cond_true,_root_.cond_false,Yd,IK,j,Ad4,Ael,Ad8,Aet,ZR, *]
 |true=>
  let⟨b,u,i⟩:=g.Mc k l
  refine⟨b,i,λe f=> ?_⟩;unfold RE VL;by_cases j:D6 a[c]!.2 a[d]!.2<0<;>cases h<;>simp only[Q,QT,AdM,r,_root_.cond_true,_root_.cond_false,Yd,IK,j,Ad4,Ael,Ad8,Aet,ZR, *]
def up{r:C WE}{y:G}{e:F}{h p I J:D}{o q:Ah}(k:∀a b g d e c,jj W9 h p [a,b,g,d,e] c=RE o q a b a g d e c (λc=>jj W9 h I [a,b,g,d,e] c) λc=>jj W9 h J [a,b,g,d,e] c)(w:∀a b g d e c,jj W9 h I [a,b,g,d,e] c=(A6 .add [a,.n 1]).b λT=>jj W9 h p [T,b,g,d,e] c){f:Bg WE}(d b:D)(l:WE->Ah)(n:∀M,l M=VL o q M f[d]!)(z:d<f.z)(R:b<f.z)(S:f.z<100000000):∀(j a:D){c:G},b+1-a<=j->SI r y e c f->a<100000000->∃x,jj W9 h p [.n a,.n b,.f (pos 85) [],.n d,e] c=jj W9 h J [.n (scanUp l f b a),.n b,.f (pos 85) [],.n d,e] x/\SI r y e x f
 |j,a,c,V,s,U=>by
  by_cases u:a<=b
  .cases j with
   |zero=>omega
   |succ j=>
   let⟨P,t,E⟩:=jI s o q u (d:=a) (by omega) z
   cases v:l f[a]!with
   |true=>
    let⟨Q,W,N⟩:=up k w d b l n z R S j (a+1) (by omega) t (by omega)
    refine⟨Q,?_,N⟩;rw[scanUp,Af (by grind),k,E,<-n,v,_root_.cond_true,w,H (Bh (a:=a) (by omega))];grind
   |false=>refine⟨P,?_,t⟩;rw[scanUp,Ad (by grind),k,E,<-n,v,_root_.cond_false]
  .exact⟨c,by rw[scanUp,Ad (by grind),k,cn u],s⟩
def Wz{r:C WE}{x:G}{f:F}{h p I J:D}{o q:Ah}(k:∀b a g d f c,jj W9 h p [b,a,g,d,f] c=RE o q b a a g d f c (λc=>jj W9 h I [a,b,g,d,f] c) λc=>jj W9 h J [b,a,g,d,f] c)(v:∀a b g d f c,jj W9 h I [a,b,g,d,f] c=(A6 .sub [a,.n 1]).b λT=>jj W9 h p [b,T,g,d,f] c){e:Bg WE}(d b:D)(i:WE->Ah)(n:∀M,i M=VL o q M e[d]!)(R:1<=b)(y:d<e.z)(S:e.z<100000000):∀(a:D){c:G},SI r x f c e->a<e.z->∃w,jj W9 h p [.n b,.n a,.f (pos 85) [],.n d,f] c=jj W9 h J [.n b,.n (scanDown i e b a),.f (pos 85) [],.n d,f] w/\SI r x f w e
 |0,c,l,z=>⟨c,by rw[k,cn (by omega)];rfl,l⟩
 |a+1,c,l,z=>by
  by_cases t:b<=a+1
  .let⟨P,s,E⟩:=jI l o q t (d:=a+1) z y
   cases u:i e[a+1]!with
   |true=>
    let⟨Q,U,N⟩:=Wz k v d b i n R y S a s (by omega)
    refine⟨Q,?_,N⟩;rw[show scanDown i e b (a+1)=scanDown i e b a from Af (by grind),k,E,<-n,u,_root_.cond_true,v,H (Zk (a:=a) (by omega))];grind
   |false=>refine⟨P,?_,s⟩;rw[show scanDown i e b (a+1)=a+1 from Ad (by grind),k,E,<-n,u,_root_.cond_false]
  .exact⟨c,by rw[show scanDown _ e b (a+1)=a+1 from Ad (by grind),k,cn t],l⟩
def hK{o:C WE}{s:G}{n:F}(b:D):∀(h e c:D){l:G}{a:Bg WE},c+1-e<=h->SI o s n l a->1<=e->b<a.z->c<a.z->e<90000000->a.z<90000000->∃r,jj W9 218 2 [.f (pos 85) [],.n b,n,.n e,.n c] l=A (.AB [.n (partLoop BL b e c a).1,.b Aa],r)/\SI o s n r (swp (partLoop BL b e c a).2 (partLoop BL b e c a).1 b)
 |h,e,c,l,a,Z,w,V,m,t,X,xa=>by
  let⟨T,u,x⟩:=up (o:=Aa) (q:=Aa) HN.2.2.2.2.2.2.2.2.2.2.2.1 HN.2.2.2.2.2.2.2.2.2.2.2.2.1 b c (λd=>BL d a[b]!) (λ_=>B) m t (by omega) (c+1-e) e (CK _) w (by omega)
  have xc:=scanUp_ge (λd=>BL d a[b]!) a c e;have xe:=(scanUp_spec (λd=>BL d a[b]!) a c _ e B).2.1;let⟨U,v,p⟩:=Wz (o:=L) (q:=Aa) HN.2.2.2.2.2.2.2.2.2.2.2.2.2.2.1 HN.2.2.2.2.2.2.2.2.2.2.2.2.2.2.2.1 b (scanUp (λd=>BL d a[b]!) a c e) (λd=> !BL d a[b]!) (λ_=>B) (by omega) m (by omega) c x t
  have xd:=scanDown_le (λd=> !BL d a[b]!) a (scanUp (λd=>BL d a[b]!) a c e) c;rw[partLoop_eq];generalize W:scanUp (λd=>BL d a[b]!) a c e=f at*;generalize Y:scanDown (λd=> !BL d a[b]!) a f c=g at*;by_cases q:f>g
  .have z:g<(f:K):=by omega
   rw[Af q];let⟨M,N,Q,R,S,E,I,J,k⟩:=p.KM (d:=g) (c:=b) (by omega) m
   refine⟨N,?_,k⟩;rw[HN.2.2.2.2.2.2.2.2.2.1,u,HN.2.2.2.2.2.2.2.2.2.2.1,v,HN.2.2.2.2.2.2.2.2.2.2.2.2.2.1];simp only[QY,HN.2.2.2.2.2.2.2.2.1, *]
  .cases h with
   |zero=>omega
   |succ h=>
   have z:¬g<(f:K):=by omega
   rw[Ad q]
   let⟨M,_,_,_,_,E,I,J,k⟩:=p.KM (d:=f) (c:=g) (by omega) (by omega)
   let⟨P,xb,y⟩:=hK b h (f+1) (g-1) (by omega) k (by omega) (by rw[size_swp];grind) (by rw[size_swp];omega) (by omega) (by rw[size_swp];grind)
   refine⟨P,?_,y⟩
   rw[HN.2.2.2.2.2.2.2.2.2.1,u,HN.2.2.2.2.2.2.2.2.2.2.1,v,HN.2.2.2.2.2.2.2.2.2.2.2.2.2.1]
   simp only[QY,HN.2.2.2.2.2.2.2.2.2.2.2.2.2.2.2.2,H (Bh (a:=f) (by omega)),H (JU (a:=g) (by omega) (by omega)), *]
variable{k:F}{n:G}
def p3{o:C WE}{h:Bg WE}(u:SI o s k n h){g:D}(xi:a<=g)(xk:g<b)(xh:a+1<b)(xj:b<=h.z)(xl:h.z<80000000):∃r,W9 (pos 218) [k,.n a,.n b,.n g,.f (pos 85) []] n=A (.AB [.n (partition BL h a b g).1,.b (partition BL h a b g).2.1],r)/\SI o s k r (partition BL h a b g).2.2:=by
 let⟨xd,xe,z,E,I,J,M,N,v⟩:=u.KM (d:=a) (c:=g) (by omega) (by omega)
 unfold partition;simp only[];generalize X:swp h a g=d at*;have xq:d.z=h.z:=by rw[<-X,size_swp]
 let⟨xf,Y,w⟩:=up (o:=Aa) (q:=Aa) HN.2.2.1 HN.2.2.2.1 a (b-1) (λc=>BL c d[a]!) (λ_=>B) (by omega) (by omega) (by omega) (b-1+1-(a+1)) (a+1) (CK _) v (by omega)
 have xn:=scanUp_ge (λc=>BL c d[a]!) d (b-1) (a+1);have xp:=(scanUp_spec (λc=>BL c d[a]!) d (b-1) _ (a+1) B).2.1;let⟨T,Z,p⟩:=Wz (o:=L) (q:=Aa) HN.2.2.2.2.2.1 HN.2.2.2.2.2.2.1 a (scanUp (λc=>BL c d[a]!) d (b-1) (a+1)) (λc=> !BL c d[a]!) (λ_=>B) (by omega) (by omega) (by omega) (b-1) w (by omega)
 have xo:=scanDown_le (λc=> !BL c d[a]!) d (scanUp (λc=>BL c d[a]!) d (b-1) (a+1)) (b-1);generalize scanUp (λc=>BL c _) _ _ _=e at*;generalize scanDown (λc=> !BL c _) d e (b-1)=f at*;have t:∀{m:R},jj W9 218 11 [.n e,.n f,.f (pos 85) [],.n a,k] T=m->xx W9 218 [k,.n a,.n b,.n g,.f (pos 85) []] n=m:=λ{m} xg=>by rw[HN.1];simp only[QY,z,E,I,J,M,N,Bh (a:=a) (by omega),JU (a:=b) (by omega) (by omega),Y,HN.2.1,Z];grind
 by_cases q:e>f
 .have y:f<(e:K):=by omega
  rw[Af q];let⟨U,V,xa,xb,xc,P,Q,S,l⟩:=p.KM (d:=f) (c:=a) (by omega) (by omega)
  refine⟨V,AZ B B (t ?_),l⟩;rw[HN.2.2.2.2.1];simp only[QY, *]
 .have y:¬f<(e:K):=by omega
  rw[Ad q];let⟨U,_,_,_,_,P,Q,S,l⟩:=p.KM (d:=e) (c:=f) (by omega) (by omega)
  let⟨W,xm,x⟩:=hK a (f-1+1-(e+1)) (e+1) (f-1) Om l (by omega) (by rw[size_swp];omega) (by rw[size_swp];omega) (by omega) (by rw[size_swp];omega)
  refine⟨W,AZ B B (t ?_),x⟩;rw[HN.2.2.2.2.1];simp only[QY,HN.2.2.2.2.2.2.2.1,H (Bh (a:=e) (by omega)),H (JU (a:=f) (by omega) (by omega)), *]
def hJ{m:C WE}{r:G}{l:F}(c:D):∀(h e d:D){k:G}{a:Bg WE},d+1-e<=h->SI m r l k a->1<=e->c<a.z->d<a.z->e<90000000->a.z<90000000->∃q,jj W9 217 2 [.f (pos 85) [],.n c,l,.n e,.n d] k=A (.n (partEqLoop BL c e d a).1,q)/\SI m r l q (partEqLoop BL c e d a).2
 |h,e,d,k,a,W,w,S,s,t,U,X=>by
  let⟨P,u,x⟩:=up (o:=L) (q:=L) LH.2.2.2.2.1 LH.2.2.2.2.2.1 c d (λb=> !BL a[c]! b) (λ_=>B) s t (by omega) (d+1-e) e (CK _) w (by omega)
  have Z:=scanUp_ge (λb=> !BL a[c]! b) a d e;have xb:=(scanUp_spec (λb=> !BL a[c]! b) a d _ e B).2.1;let⟨E,v,n⟩:=Wz (o:=Aa) (q:=L) LH.2.2.2.2.2.2.2.1 LH.2.2.2.2.2.2.2.2.1 c (scanUp (λb=> !BL a[c]! b) a d e) (λb=>BL a[c]! b) (λ_=>B) (by omega) s (by omega) d x t
  have xa:=scanDown_le (λb=>BL a[c]! b) a (scanUp (λb=> !BL a[c]! b) a d e) d;rw[partEqLoop_eq];generalize T:scanUp (λb=> !BL a[c]! b) a d e=f at*;generalize V:scanDown (λb=>BL a[c]! b) a f d=g at*;by_cases o:f>g
  .have p:g<(f:K):=by omega
   rw[Af o];refine⟨E,?_,n⟩;rw[LH.2.2.1,u,LH.2.2.2.1,v,LH.2.2.2.2.2.2.1];simp only[↓Q,↓QT,p,LH.2.1]
  .cases h with
   |zero=>omega
   |succ h=>
   have p:¬g<(f:K):=by omega
   rw[Ad o]
   let⟨R,_,_,_,_,J,M,N,y⟩:=n.KM (d:=f) (c:=g) (by omega) (by omega)
   let⟨I,Y,z⟩:=hJ c h (f+1) (g-1) (by omega) y (by omega) (by rw[size_swp];grind) (by rw[size_swp];omega) (by omega) (by rw[size_swp];grind)
   refine⟨I,?_,z⟩
   rw[LH.2.2.1,u,LH.2.2.2.1,v,LH.2.2.2.2.2.2.1]
   simp only[QY,LH.2.2.2.2.2.2.2.2.2,H (Bh (a:=f) (by omega)),H (JU (a:=g) (by omega) (by omega)), *]
def p2{f:C _}{k g:G}{e:F}{d:Bg _}(l:SI f k e g d)(q:a<=c)(s:c<b)(r:b<=d.z)(t:d.z<80000000):∃h,W9 (pos 217) [e,.n a,.n b,.n c,.f (pos 85) []] g=A (.n (partitionEqual BL d a b c).1,h)/\SI f k e h (partitionEqual BL d a b c).2:=by
 let⟨p,_,_,_,_,_,_,_,m⟩:=l.KM (d:=a) (c:=c) (by omega) (by omega)
 let⟨o,u,n⟩:=hJ a (b-1+1-(a+1)) (a+1) (b-1) Om m (by omega) (by rw[size_swp];omega) (by rw[size_swp];omega) (by omega) (by rw[size_swp];omega)
 refine⟨o,AZ B B ?_,n⟩;rw[LH.1];simp only[QY,H (Bh (a:=a) (by omega)),H (JU (a:=b) (by omega) (by omega)), *];rfl
def a1:C D:=[0,1,2,2,3,3,3,3,4,4,4,4,4,4,4,4,5,5,5,5,5,5,5,5,5,5,5,5,5,5,5,5,6,6,6,6,6,6,6,6,6,6,6,6,6,6,6,6,6,6,6,6,6,6,6,6,6,6,6,6,6,6,6,6,7,7,7,7,7,7,7,7,7,7,7,7,7,7,7,7,7,7,7,7,7,7,7,7,7,7,7,7,7,7,7,7,7,7,7,7,7,7,7,7,7,7,7,7,7,7,7,7,7,7,7,7,7,7,7,7,7,7,7,7,7,7,7,7,8,8,8,8,8,8,8,8,8,8,8,8,8,8,8,8,8,8,8,8,8,8,8,8,8,8,8,8,8,8,8,8,8,8,8,8,8,8,8,8,8,8,8,8,8,8,8,8,8,8,8,8,8,8,8,8,8,8,8,8,8,8,8,8,8,8,8,8,8,8,8,8,8,8,8,8,8,8,8,8,8,8,8,8,8,8,8,8,8,8,8,8,8,8,8,8,8,8,8,8,8,8,8,8,8,8,8,8,8,8,8,8,8,8,8,8,8,8,8,8,8,8,8,8,8,8,8,8]
def j_(b:D):Ah:=match a1[b]?with
 |some a=>BX a 8&&(BX (2^a) (2*b)||(AW b 0&&AW a 0))
 |none=>Aa
def AaG:((List.range 256).all j_)=L:=by kernel_rfl
def AaH(d:a<256):∃b,a1[a]? =A b/\b<=8/\(2^b<=2*a\/(a=0/\b=0)):=by
 have:=Aei.1 AaG a P
 unfold j_ at this
 cases c:a1[a]?with
 |none=>grind
 |some b=>rw[c]at this;simp only[AdO,AeS,Nat.ble_eq,Nat.beq_eq]at this;grind
def jT(c:a<=64):A6 .shr [.i .u64 b,.i .u64 a]=A (.i .u64 (b/2^a:D)):=by show A (F.i .u64 ((b:K).fdiv (2^(min a 64))))=_;grind
def nl(b:a<256):Ho .u8 [.i .u64 a]=A (.i .u8 a):=by show A (F.i .u8 (Iu .u8 a))=_;rw[KQ];have:IntKind.u8.wrap a=a % 256:=B;grind
def Zr{e:D}(g:d<256)(l:e<=16)(f:G):∃c,jj W9 220 1 [.n e,.i .u64 d] f=A (.n (e+c:D),f)/\c<=8/\(2^c<=2*d\/(d=0/\c=0)):=by
 let⟨c,h,i,j⟩:=AaH g
 refine⟨c,?_,i,j⟩;rw[No.2.2.2];simp only[↓H (nl g),↓H (WM h:Hq [.s [0,1,2,2,3,3,3,3,4,4,4,4,4,4,4,4,5,5,5,5,5,5,5,5,5,5,5,5,5,5,5,5,6,6,6,6,6,6,6,6,6,6,6,6,6,6,6,6,6,6,6,6,6,6,6,6,6,6,6,6,6,6,6,6,7,7,7,7,7,7,7,7,7,7,7,7,7,7,7,7,7,7,7,7,7,7,7,7,7,7,7,7,7,7,7,7,7,7,7,7,7,7,7,7,7,7,7,7,7,7,7,7,7,7,7,7,7,7,7,7,7,7,7,7,7,7,7,7,8,8,8,8,8,8,8,8,8,8,8,8,8,8,8,8,8,8,8,8,8,8,8,8,8,8,8,8,8,8,8,8,8,8,8,8,8,8,8,8,8,8,8,8,8,8,8,8,8,8,8,8,8,8,8,8,8,8,8,8,8,8,8,8,8,8,8,8,8,8,8,8,8,8,8,8,8,8,8,8,8,8,8,8,8,8,8,8,8,8,8,8,8,8,8,8,8,8,8,8,8,8,8,8,8,8,8,8,8,8,8,8,8,8,8,8,8,8,8,8,8,8,8,8,8,8,8,8],.i .u8 d]=A (.i .u8 c)),↓H (Zj (d:=.u8) (a:=c) (by omega) (by omega)),↓H (Mx (a:=e) (b:=c) (by omega))]
def p4(v:a<1000000):∃c:D,c<=24/\(2^c<=2*a\/(a=0/\c=0))/\∀g,W9 (pos 220) [.i .u64 (a:K)] g=A (.n (c:K),g):=by
 have t:∃c:D,c<=24/\(2^c<=2*a\/(a=0/\c=0))/\∃p,xx W9 220 [.i .u64 (a:K)] G.Aq=A (.n (c:K),p):=by
  have n:¬(4294967296:K)<=(a:K):=by omega
  by_cases u:65536<=a
  .have i:(65536:K)<=(a:K):=by omega
   have f:=jT (b:=a) (a:=16) (by grind);have f:A6 .shr [.i .u64 (a:K),.i .u64 16]=A (.i .u64 ((a/65536:D):K)):=f;have o:¬(256:K)<=((a/65536:D):K):=by omega
   have l:A6 .add [.n 0,.n 16]=A (.n 16):=B;let⟨e,d,k,h⟩:=Zr (e:=16) (d:=a/65536) (by omega) (by omega) G.Aq
   have d:jj W9 220 1 [.n 16,.i .u64 ((a/65536:D):K)] G.Aq=A (.n ((16+e:D):K),G.Aq):=d;refine⟨16+e,by omega,?_,G.Aq,?_⟩;.grind
   .rw[No.1];simp only[QY,No.2.1,No.2.2.1, *]
  .have i:¬(65536:K)<=(a:K):=by omega
   by_cases o:256<=a
   .have j:(256:K)<=(a:K):=by omega
    have f:=jT (b:=a) (a:=8) (by grind);have f:A6 .shr [.i .u64 (a:K),.i .u64 8]=A (.i .u64 ((a/256:D):K)):=f;have l:A6 .add [.n 0,.n 8]=A (.n 8):=B;let⟨e,d,k,h⟩:=Zr (e:=8) (d:=a/256) (by omega) (by omega) G.Aq
    have d:jj W9 220 1 [.n 8,.i .u64 ((a/256:D):K)] G.Aq=A (.n ((8+e:D):K),G.Aq):=d;refine⟨8+e,by omega,?_,G.Aq,?_⟩;.grind
    .rw[No.1];simp only[QY,No.2.1,No.2.2.1, *]
   .have j:¬(256:K)<=(a:K):=by omega
    let⟨e,d,k,h⟩:=Zr (e:=0) (d:=a) (by omega) (by omega) G.Aq
    have d:jj W9 220 1 [.n 0,.i .u64 (a:K)] G.Aq=A (.n ((0+e:D):K),G.Aq):=d;rw[Ad2]at d;refine⟨e,by omega,h,G.Aq,?_⟩;rw[No.1];simp only[↓Q,↓QT,AdM,n,No.2.1,i,No.2.2.1,j,d]
 let⟨c,q,r,s⟩:=t
 exact⟨c,q,r,λg=>(Bu B B B s).at B g⟩
def fQ(g:b<1000000):∃a:D,a<=24/\(2^a<=2*b\/(b=0/\a=0))/\∀c,W9 (pos 186) [.i .u64 b] c=A (.n a,c):=by
 let⟨a,d,e,f⟩:=p4 g
 exact⟨a,d,e,λc=>(Bu B B B ⟨G.Aq,by rw[hk.1];simp only[↓Q,hk.2,↓H (f G.Aq)]⟩:AY 186 [.i .u64 b] (.n a)).at B c⟩
def qq(o:b<400000)(i:0<b):∃d:D,1<=d/\d<=2*b/\∀c,W9 (pos 251) [.n b] c=A (.i .u64 d,c):=by
 let⟨a,j,l,m⟩:=fQ (b:=b) (by omega)
 have e:2^a<=2*b:=by grind
 have h:=Uq (d:=.n) (a:=b) (by omega) (by omega);have p:A6 .shl [.i .u64 1,.n a]=A (.i .u64 (2^a:D)):=by
  show A (F.i .u64 (IntKind.u64.wrap (1*2^(min a 64))))=_;rw[Afj (by omega)];have g:1*2^a=((2^a:D):K):=by grind
  rw[g];generalize 2^a=f at e;have:IntKind.u64.wrap f=f % 18446744073709551616:=B;grind
 exact⟨2^a,Nat.one_le_two_pow,e,λc=>(Bu B B B ⟨G.Aq,by rw[sQ];grind⟩:AY 251 [.n b] (.i .u64 (2^a:D))).at B c⟩
structure QI(c:C WE)(d:G)(e:F)(a:T)(b:G)(f:Bg WE)(h:F):Prop where
 I:SI c d e b f
 g:b.M a=A (.I 1 [h])
 lq:Lv b a
 nq:¬Lv d a
 au:As e a
 ax:∀i∈c,As i.1 a
def SI.dA{c:C _}{f b:G}{e:F}{d:Bg _}(a:SI c f e b d):SI c b e b d:=⟨a.Cs,a.sub,a.ro,a.A7,a.HF,P⟩
def SI.Uo{b:C _}{g f:G}{c:F}{k d:Bg WE}(i:SI b g c e k)(a:SI b e c f d):SI b g c f d:=⟨a.Cs,a.sub,a.ro,a.A7,a.HF,λh l=>by have j:=i.fr h l;have m:=a.fr h j.2;grind⟩
def SI.t1{d:C _}{g a:G}{c:F}{f:Bg _}(e:SI d g c a f){b:T}(h:¬As c b):Lv a b:=e.Cs.Cz h
def SI.t2{d:C _}{m:F}{i:Bg _}(g:SI d j m e i){c:WE}(l:c∈d){a:T}(f:¬As c.1 a):Lv e a:=by
 rcases g.ro c l with⟨b,_⟩|⟨h,n,b,_,o⟩;.exact BF (by rw[b];exact Cg a) f
 .by_cases k:h=a;.grind
  .exact BF (by rw[b];exact EN k) f
def SI.ext{b:C _}{f d:G}{c:Bg _}(a:SI b f g d c)(h:AH d e):SI b f g e c where
 Cs:=a.Cs.ext h
 sub:=a.sub
 ro:=λl j=>(a.ro l j).Ar P
 A7:=a.A7
 HF:=a.HF
 fr:=λk i=>by have:=a.fr k i;grind
def SI.box{g:C _}{i c:G}{j:F}{h:Bg _}(b:SI g i j e h)(l:AH e c){a:T}(m:c.M a=A (.I 1 [k]))(p:Lv c a)(f:¬Lv e a):QI g i j a c h k:=
 ⟨b.ext l,m,p,λo=>f (b.fr a o).2,AdS λd=>f (b.t1 d),λq n=>AdS λd=>f (b.t2 n d)⟩
def QI.Dj{b:C WE}{h i:G}{d:F}{c:T}{l f:Bg WE}(a:QI b j d c h l k)(e:SI b h d i f):QI b j d c i f k:=by have:=e.fr c a.lq;exact⟨a.I.Uo e,(this.1 ⟨a.au,a.ax⟩).t a.g,P,a.nq,a.au,a.ax⟩
def QI.set{k:C WE}{d:G}{p:F}{e:T}{l:Bg WE}{u:F}(a:QI k n p e d l u){c:F}(s:c.I=[c])(r:Fl c=L):∃m,AX 1 d [.p e 0,c]=A (AC,m)/\QI k n p e m l c:=by
 refine⟨_,TL a.g s r,?_⟩;have j:∀b,b≠e->(d.set e (.I 1 [c])).M b=d.M b:=λb f=>by rw[AN,Ad f]
 have t:∀b,Lv (d.set e (.I 1 [c])) b=Lv d b:=by grind
 refine⟨⟨a.I.Cs.Ar λb f i=>⟨j b (λh=>i (by rw[h];exact a.au)),by grind⟩,a.I.sub,λq o=>(a.I.ro q o).Ar λb y v f i w=>⟨by rw[j b (λh=>i (by rw[h];exact a.ax q o))];grind,by grind⟩,a.I.A7,a.I.HF,λb f=> ?_⟩,by rw[AN,Af B],by rw[t];exact a.lq,a.nq,a.au,a.ax⟩;have:=a.I.fr b f;exact⟨λx=>(j b (λh=>a.nq (by grind))).t P,by grind⟩
def qr{i:C _}{q o:G}{r:F}{d:T}{n:Bg _}{e:K}(j:QI i q r d o n (.i .u64 e)):∃s p,W9 (pos 252) [.p d 0] o=A (.i .u64 s,p)/\QI i q r d p n (.i .u64 s):=by
 have I:=j.g;obtain⟨f,u⟩:∃f,A6 .shl [.i .u64 e,.i .u64 13]=A (.i .u64 f):=⟨_,B⟩;obtain⟨a,v⟩:∃a,A6 .xor [.i .u64 e,.i .u64 f]=A (.i .u64 a):=⟨_,B⟩;let⟨E,_,k⟩:=j.set (c:=.i .u64 a) B B
 have J:=k.g;obtain⟨g,w⟩:∃g,A6 .shr [.i .u64 a,.i .u64 7]=A (.i .u64 g):=⟨_,B⟩;obtain⟨b,x⟩:∃b,A6 .xor [.i .u64 a,.i .u64 g]=A (.i .u64 b):=⟨_,B⟩;let⟨H,_,l⟩:=k.set (c:=.i .u64 b) B B
 have M:=l.g;obtain⟨h,y⟩:∃h,A6 .shl [.i .u64 b,.i .u64 17]=A (.i .u64 h):=⟨_,B⟩;obtain⟨c,z⟩:∃c,A6 .xor [.i .u64 b,.i .u64 h]=A (.i .u64 c):=⟨_,B⟩;let⟨t,_,m⟩:=l.set (c:=.i .u64 c) B B
 have N:=m.g;refine⟨c,t,AZ B B ?_,m⟩;rw[sR];simp only[QY, *]
def lg{b:K}(f:a<=1000000):∃c:D,A6 .and [.i .u64 b,.i .u64 a]=A (.i .u64 c)/\c<=a:=by
 have d:A6 .and [.i .u64 b,.i .u64 a]=A (.i .u64 (IntKind.u64.wrap (BitVec.ofInt 64 b&&&BitVec.ofInt 64 a).toNat)):=B;have e:(BitVec.ofInt 64 b&&&BitVec.ofInt 64 a).toNat<=a:=by rw[BitVec.toNat_and];refine Aem Nat.and_le_right ?_;grind
 refine⟨(BitVec.ofInt 64 b&&&BitVec.ofInt 64 a).toNat,?_,e⟩;rw[d];have:IntKind.u64.wrap (BitVec.ofInt 64 b&&&BitVec.ofInt 64 (a:K)).toNat=((BitVec.ofInt 64 b&&&BitVec.ofInt 64 a).toNat:K)% 18446744073709551616:=B;grind
def Vh(c:a<1000000000)(d:b<1000000000):A6 .mul [.n a,.n b]=A (.n (a*b:D)):=by rw[Vg _ _ (by unfold Dk;omega) (by unfold Dk;omega)];grind
def hI{y:C WE}{z:G}{v:F}{E:T}{c d g:D}(Y:c+8<=d)(xb:1<=g)(xc:g<=2*(d-c)):∀(u e:D){w:G}{f:Bg WE}{R:K},c+(d-c)/4*2+2-e<=u->c<=e->QI y z v E w f (.i .u64 R)->d<=f.z->f.z<200000->∃s r,jj W9 213 1 [.p E 0,.i .u64 g,.n (d-c:D),.n c,v,.n e] w=A (.AB [],s)/\SI y z v s r/\PermIn c d f r
 |u,e,w,f,R,xl,Z,I,xa,xn=>by
  have M:=VC (a:=d-c) (b:=4) (by omega) (by omega);have M:A6 .quo [.n (d-c:D),.n 4]=A (.n ((d-c)/4:D)):=M;have N:=Vh (a:=(d-c)/4) (b:=2) (by omega) (by omega);have N:A6 .mul [.n ((d-c)/4:D),.n 2]=A (.n ((d-c)/4*2:D)):=N;have xg:=Mx (a:=c) (b:=(d-c)/4*2) (by omega);have xh:=Bh (a:=c+(d-c)/4*2) (by omega);by_cases xf:e<=c+(d-c)/4*2+1
  .cases u with
   |zero=>omega
   |succ u=>
   have U:(e:K)<=((c+(d-c)/4*2+1:D):K):=by omega
   let⟨xd,X,xp,J⟩:=qr I
   have xq:A6 .sub [.i .u64 (g:K),.i .u64 1]=A (.i .u64 ((g-1:D):K)):=by show A (F.i .u64 (Iu .u64 (QG (g:K) 1)))=_;rw[(UM _ _:QG (g:K) 1=(g:K)-1),kE (by omega) (by omega)];grind
   let⟨h,xe,xo⟩:=lg (b:=xd) (a:=g-1) (by omega)
   have xy:=Zj (d:=.u64) (a:=(h:K)) (by omega) (by omega)
   have Q:∀(o:D),o<d-c->∃s r,jj W9 213 3 [.n (o:K),.n (e:K),.p E 0,.i .u64 (g:K),.n ((d-c:D):K),.n (c:K),v] X=A (.AB [],s)/\SI y z v s r/\PermIn c d f r:=by
    intro o xm;have xi:=Mx (a:=c) (b:=o) (by omega);let⟨xj,xk,xs,xt,xu,xv,xw,xx,S⟩:=J.I.dA.KM (d:=e) (c:=c+o) (by omega) (by omega)
    let⟨t,l,P,p,q⟩:=hI Y xb xc u (e+1) (by omega) (by omega) (J.Dj S) (by rw[size_swp];grind) (by rw[size_swp];grind)
    refine⟨t,l,?_,p,permIn_trans f _ l c d (swp_permIn f c d e (c+o) Z (by omega) (by omega) (by omega) xa) q⟩;rw[Pv.2.2.2.2];simp only[QY,Pv.2.2.2.1,H (Bh (a:=e) (by omega)), *]
   by_cases V:h>=d-c
   .have W:((d-c:D):K)<=(h:K):=by omega
    have xr:=Mu (a:=h) (b:=d-c) V (by omega);let⟨t,l,P,p,q⟩:=Q (h-(d-c)) (by omega)
    refine⟨t,l,?_,p,q⟩;rw[Pv.2.1];simp only[QY,Pv.2.2.1, *]
   .have W:¬((d-c:D):K)<=(h:K):=by omega
    let⟨t,l,P,p,q⟩:=Q h (by omega)
    refine⟨t,l,?_,p,q⟩;rw[Pv.2.1];simp only[QY,Pv.2.2.1, *]
  .have U:¬e<=((c+(d-c)/4*2+1:D):K):=by omega
   refine⟨w,f,?_,I.I,permIn_refl f c d⟩;rw[Pv.2.1];simp only[QY, *]
def pY{h:C WE}{p:G}{f:Bg WE}(t:SI h p g e f)(E:c+8<=d)(I:d<=f.z)(Q:f.z<200000):∃o i,W9 (pos 213) [g,.n (c:K),.n (d:K),.f (pos 85) []] e=A (.AB [],o)/\SI h p g o i/\PermIn c d f i:=by
 have xa:=Mu (a:=d) (b:=c) (by omega) (by omega);have V:(8:K)<=((d-c:D):K):=by omega
 have xb:=Uq (d:=.n) (a:=((d-c:D):K)) (by omega) (by omega);let⟨U,q,P,J,s,y,S,T⟩:=box e (.I 1 [.i .u64 ((d-c:D):K)])
 let⟨xc,r⟩:=EL e (b:=1) [(.i .u64 0)] (c:=[.i .u64 ((d-c:D):K)]) P J B B
 have r:AX 1 (e.V (.I 1 [.i .u64 0])) [.p U 0,.i .u64 ((d-c:D):K)]=A (AC,q):=by rw[cw B]at r;grind
 let⟨Z,M,N,R⟩:=qq (b:=d-c) (by omega) (by omega)
 have l:=VC (a:=d-c) (b:=4) (by omega) (by omega);have l:A6 .quo [.n ((d-c:D):K),.n 4]=A (.n (((d-c)/4:D):K)):=l;have m:=Vh (a:=(d-c)/4) (b:=2) (by omega) (by omega);have m:A6 .mul [.n (((d-c)/4:D):K),.n 2]=A (.n (((d-c)/4*2:D):K)):=m;have W:=Mx (a:=c) (b:=(d-c)/4*2) (by omega);have X:=JU (a:=c+(d-c)/4*2) (by omega) (by omega);let⟨z,w,Y,u,v⟩:=hI (c:=c) (d:=d) E M N (c+(d-c)/4*2+2-(c+(d-c)/4*2-1)) (c+(d-c)/4*2-1) (CK _) (by omega) (t.box s y S T) I Q
 refine⟨z,w,AZ B B ?_,u,v⟩;rw[Pv.1];simp only[QY,H (R q), *]
variable{h:F}
def ag{l:C _}{o m:G}{g:T}{c:Bg WE}(e:QI l o h g m c (.n d))(y:d<1000)(p:a<c.z)(q:b<c.z):∃(j k r:D)(n:G),W9 (pos 261) [h,.n a,.n b,.p g 0,.f (pos 85) []] m=A (.AB [.n j,.n k],n)/\((j=a/\k=b)\/(j=b/\k=a))/\r<=d+1/\QI l o h g n c (.n r):=by
 let⟨z,I⟩:=e.I.rd q
 let⟨E,J⟩:=e.I.rd p
 let⟨w,u,s⟩:=e.I.dA.Mc q p
 rw[Kv]at u;have f:=e.Dj s;by_cases v:D6 c[b]!.2 c[a]!.2<0
 .have M:=f.g;let⟨x,_,t⟩:=f.set (c:=.n (d+1:D)) B B
  refine⟨b,a,_,_,AZ B B ?_,Om,Om,t⟩;rw[aT.1];simp only[QY,Kv,H (Bh (a:=d) (by omega)), *]
 .refine⟨a,b,d,_,AZ B B ?_,Om,by omega,f⟩;rw[aT.1];simp only[QY,Kv,aT.2, *]
def Agy{k:C WE}{l:G}{f:T}{a:Bg WE}{g:D}(p:QI k n h f l a (.n g))(Q:g<900){e:D}(u:d<a.z)(v:e<a.z)(w:b<a.z):∃(c o:D)(m:G),W9 (pos 254) [h,.n d,.n e,.n b,.p f 0,.f (pos 85) []] l=A (.n c,m)/\(c=d\/c=e\/c=b)/\o<=g+3/\QI k n h f m a (.n o):=by
 let⟨y,E,Y,N,R,I,V,q⟩:=ag p (by omega) u v
 let⟨z,xb,Z,P,S,J,W,r⟩:=ag q (by omega) (a:=E) (b:=b) (by grind) w
 let⟨xa,H,x,t,U,M,X,s⟩:=ag r (by omega) (a:=y) (b:=z) (by grind) (by grind)
 refine⟨H,x,t,AZ B B ?_,by omega,by omega,s⟩;rw[sT];simp only[QY, *]
def af{l:C _}{m:G}{f:T}{c:Bg WE}{g:D}(o:QI l n h f m c (.n g))(s:g<900)(q:1<=a)(r:a+1<c.z)(v:c.z<200000):∃(b e:D)(d:G),W9 (pos 253) [h,.n a,.p f 0,.f (pos 85) []] m=A (.n b,d)/\(a-1<=b/\b<=a+1)/\e<=g+3/\QI l n h f d c (.n e):=by
 let⟨b,e,d,w,u,t,p⟩:=Agy o s (d:=a-1) (e:=a) (b:=a+1) (by omega) (by omega) r
 refine⟨b,e,d,AZ B B ?_,by omega,t,p⟩;rw[sS];simp only[QY,H (JU (a:=a) (by omega) q),H (Bh (a:=a) (by omega)), *]
def rs{e:C _}{h a:G}{j:F}{d:T}{g:Bg _}(f:QI e h j d a g (.n b))(c:F):∃i:K,jj W9 214 1 [.p d 0,c] a=A (.AB [c,.n i],a):=by
 have m:=f.g;by_cases k:(b:K)=0;.refine⟨1,?_⟩;rw[S0.2.1];simp only[QY, *]
 .by_cases l:(b:K)=12;.refine⟨2,?_⟩;rw[S0.2.1];simp only[QY,Int.reduceEq, *]
  .refine⟨0,?_⟩;rw[S0.2.1];simp only[QY, *]
def pZ{q:C WE}{p:G}{l:F}{g:Bg WE}(S:SI q s l p g)(xo:c+8<=d)(xp:d<=g.z)(v:g.z<200000):∃(e:D)(f:K)(r:G),W9 (pos 214) [l,.n c,.n d,.f (pos 85) []] p=A (.AB [.n e,.n f],r)/\c<=e/\e<d/\SI q s l r g:=by
 have xH:=Mu (a:=d) (b:=c) (by omega) (by omega);let⟨t,N,xb,xa,Q,Y,xd,xe⟩:=box p (.I 1 [.n 0])
 have xO:∀(I:F->G->R),bl (.p p.next 0) (p.V (.I 1 [.n 0])) I=I (.p t 0) N:=Dy p (.I 1 [.n 0]) xb xa;have J:QI q s l t N g (.n (0:D)):=S.box Q Y xd xe;have xk:A6 .quo [.n (d-c:D),.n 4]=A (.n ((d-c)/4:D)):=VC (a:=d-c) (b:=4) (by omega) (by omega);have xD:A6 .mul [.n ((d-c)/4:D),.n 1]=A (.n (((d-c)/4*1:D):K)):=Vh (a:=(d-c)/4) (b:=1) (by omega) (by omega);have xE:A6 .mul [.n (((d-c)/4:D):K),.n 2]=A (.n (((d-c)/4*2:D):K)):=Vh (a:=(d-c)/4) (b:=2) (by omega) (by omega);have xF:A6 .mul [.n (((d-c)/4:D):K),.n 3]=A (.n (((d-c)/4*3:D):K)):=Vh (a:=(d-c)/4) (b:=3) (by omega) (by omega);have xf:=Mx (a:=c) (b:=(d-c)/4*1) (by omega);have xg:=Mx (a:=c) (b:=(d-c)/4*2) (by omega);have xh:=Mx (a:=c) (b:=(d-c)/4*3) (by omega);have xj:(8:K)<=((d-c:D):K):=by omega
 have P:∀{H m n o:D}{h:G},QI q s l t h g (.n (H:K))->H<100->(c<=m/\m<d)->(c<=n/\n<d)->(c<=o/\o<d)->∃(e:D)(f:K)(r:G),jj W9 214 2 [l,.n (m:K),.n (n:K),.n (o:K),.f (pos 85) [],.p t 0] h=A (.AB [.n (e:K),.n f],r)/\c<=e/\e<d/\SI q s l r g:=by
  intro H m n o h W xr xs xt xu;let⟨e,xG,Z,xy,xq,_,M⟩:=Agy W (by omega) (d:=m) (e:=n) (b:=o) (by omega) (by omega) (by omega)
  let⟨f,xz⟩:=rs M (.n (e:K))
  refine⟨e,f,Z,?_,by omega,by omega,M.I⟩;rw[S0.2.2];grind
 by_cases xi:50<=d-c
 .have X:(50:K)<=((d-c:D):K):=by omega
  let⟨m,xI,xl,xv,xA,xL,T⟩:=af J (by omega) (a:=c+(d-c)/4*1) (by omega) (by omega) v
  let⟨n,xJ,xm,xw,xB,xM,U⟩:=af T (by omega) (a:=c+(d-c)/4*2) (by omega) (by omega) v
  let⟨o,xK,xn,xx,xC,xN,V⟩:=af U (by omega) (a:=c+(d-c)/4*3) (by omega) (by omega) v
  let⟨e,f,h,xc,w,E,u⟩:=P V (m:=m) (n:=n) (o:=o) (by omega) (by omega) (by omega) (by omega)
  refine⟨e,f,h,AZ B B ?_,w,E,u⟩;rw[S0.1];simp only[QY, *]
 .have X:¬(50:K)<=((d-c:D):K):=by omega
  let⟨e,f,h,xc,w,E,u⟩:=P J (m:=c+(d-c)/4*1) (n:=c+(d-c)/4*2) (o:=c+(d-c)/4*3) (by omega) (by omega) (by omega) (by omega)
  refine⟨e,f,h,AZ B B ?_,w,E,u⟩;rw[S0.1];simp only[QY, *]
def O0(e:C WE)(g:G)(i:F)(b c:D)(f:Bg WE)(h:R):Prop:=∃d a,h=A (.AB [],d)/\SI e g i d a/\PermIn b c f a/\SortedIn BL b c a
def O0.bR{e:C WE}{g:G}{i:F}{c d:Bg WE}{h:R}(l:O0 e g i a b d h)(n:PermIn a b c d):O0 e g i a b c h:=by
 let⟨m,f,k,j,o,p⟩:=l
 exact⟨m,f,k,j,permIn_trans c d f a b n o,p⟩
def U8(N:SWO BL){t:C WE}{u:G}{h:F}:∀(I c d:D)(E:D)(n m:Ah){xf:G}{o:Bg WE},d-c<=I->SI t u h xf o->c<=d->d<=o.z->o.z<200000->E<1000->Below BL c d o->O0 t u h c d o (jj W9 185 1 [.b n,.b m,.n (c:K),h,.n (d:K),.n (E:K),.f (pos 85) []] xf)
 |I,c,d,E,n,m,xf,o,yx,xm,xh,X,yh,yf,xO=>by
  have yn:=Mu (a:=d) (b:=c) xh (by omega)
  by_cases ys:d-c<=12
  .have xJ:((d-c:D):K)<=12:=by omega
   let⟨xp,xB,Z⟩:=pW xm xh X (by omega)
   have ye:=insertionSort_holds N o c d xh X;refine⟨xp,_,?_,Z,P,P⟩;rw[IH.2.1];simp only[QY, *]
  cases I with
  |zero=>omega
  |succ I=>
  have xJ:¬((d-c:D):K)<=12:=by omega
  by_cases yt:E=0
  .have xN:(E:K)=0:=by omega
   let⟨xp,xB,Z⟩:=pX xm (c:=c) (d:=d) (by omega) X (by omega)
   have ye:=heapSort_holds N o c d xh X;refine⟨xp,_,?_,Z,P,P⟩;rw[IH.2.1];simp only[QY,yn,xJ,IH.2.2.1,xN,xB]
  have xN:¬(E:K)=0:=by omega
  have yw:DE [.b L]=A (.b Aa):=B
  have yv:DE [.b Aa]=A (.b L):=B
  have xT:∀{l:G}{f:Bg WE}{g e:D},SI t u h l f->f.z=o.z->g<1000->c<=e->e<d->Below BL c d f->O0 t u h c d f (jj W9 185 2 [.n (e:K),.n ((d-c:D):K),.n (d:K),.n (c:K),h,.n (g:K),.f (pos 85) []] l):=by
   intro l f g e w R r y z s
   let⟨T,U,q⟩:=p3 w y z (by omega) (by omega) (by omega)
   cases xi:partition BL f c d e with
   |mk k ym=>
   cases ym with
   |mk xH x6=>
   rw[xi]at U q
   simp only[]at U q
   let⟨xq,xR,xG,xZ,x1,yb,yc⟩:=round_part N (partition_holds BL) y z (by omega) s xi
   have xX:=Mu (a:=k) (b:=c) xq (by omega)
   have yp:=Mu (a:=d) (b:=k) (by omega) (by omega)
   have yq:A6 .quo [.n ((d-c:D):K),.n 8]=A (.n (((d-c)/8:D):K)):=VC (a:=d-c) (b:=8) (by omega) (by omega)
   have xM:∀{S J:D}{xg:G}{M:Bg WE},J-S<=I->SI t u h xg M->S<=J->J<=M.z->M.z<200000->Below BL S J M->∃W x,W9 (pos 185) [h,.n (S:K),.n (J:K),.n (g:K),.f (pos 85) []] xg=A (.AB [],W)/\SI t u h W x/\PermIn S J M x/\SortedIn BL S J x:=by
    intro S J xg M x7 xs x8 x9 ya xY;let⟨W,x,xQ,xb,V,xl⟩:=U8 N I S J g L L x7 xs x8 x9 ya r xY
    exact⟨W,x,AZ B B (by rw[IH.1];grind),xb,V,xl⟩
   by_cases yu:k-c<d-k
   .have x4:((k-c:D):K)<((d-k:D):K):=by omega
    let⟨W,x,xQ,xb,V,xl⟩:=xM (S:=c) (J:=k) (by omega) q xq (by omega) (by omega) xZ
    let⟨xr,xe⟩:=yb x V xl
    have yr:x.z=o.z:=by rw[V.1,xG,R]
    let⟨xz,xd,yj,xt,xE,xF⟩:=U8 N I (k+1) d g (Ao (((d-c)/8:D)<=k-c)) xH (by omega) xb (by omega) (by omega) (by omega) r xr
    let⟨xj,xk⟩:=xe xd xE xF
    refine⟨xz,xd,?_,xt,xj,xk⟩;have xx:Ao ((((d-c)/8:D):K)<=((k-c:D):K))=Ao (((d-c)/8:D)<=k-c):=by grind
    have xy:=JW .n ((k-c:D):K) (((d-c)/8:D):K);rw[xx]at xy;rw[IH.2.2.2.2.2.2.2];simp only[QY,H (Bh (a:=k) (by omega)), *]
   .have x4:¬((k-c:D):K)<((d-k:D):K):=by omega
    let⟨W,x,xQ,xb,V,xl⟩:=xM (S:=k+1) (J:=d) (by omega) q (by omega) (by omega) (by omega) x1
    let⟨xr,xe⟩:=yc x V xl
    have yr:x.z=o.z:=by rw[V.1,xG,R]
    let⟨xz,xd,yj,xt,xE,xF⟩:=U8 N I c k g (Ao (((d-c)/8:D)<=d-k)) xH (by omega) xb xq (by omega) (by omega) r xr
    let⟨xj,xk⟩:=xe xd xE xF
    refine⟨xz,xd,?_,xt,xj,xk⟩;have xx:Ao ((((d-c)/8:D):K)<=((d-k:D):K))=Ao (((d-c)/8:D)<=d-k):=by grind
    have xy:=JW .n ((d-k:D):K) (((d-c)/8:D):K);rw[xx]at xy;rw[IH.2.2.2.2.2.2.2];simp only[QY,H (Bh (a:=k) (by omega)), *]
  have xU:∀{l:G}{f:Bg WE}{g e:D},SI t u h l f->f.z=o.z->g<1000->c<=e->e<d->Below BL c d f->O0 t u h c d f (jj W9 185 3 [.b n,.b m,.n (e:K),.n ((d-c:D):K),.n (d:K),.n (c:K),h,.n (g:K),.f (pos 85) []] l):=by
   intro l f g e w R r y z s;by_cases xL:0<c
   .have xw:(0:K)<(c:K):=by omega
    have x5:=JU (a:=c) (by omega) xL;let⟨yy,yA⟩:=w.rd (a:=c-1) (by omega)
    let⟨yz,yB⟩:=w.rd (a:=e) (by omega)
    let⟨T,U,q⟩:=w.Mc (k:=c-1) (l:=e) (by omega) (by omega)
    by_cases xc:D6 f[c-1]!.2 f[e]!.2<0
    .have v:=xT q R r y z s;have:jj W9 185 3 [.b n,.b m,.n (e:K),.n ((d-c:D):K),.n (d:K),.n (c:K),h,.n (g:K),.f (pos 85) []] l=jj W9 185 2 [.n (e:K),.n ((d-c:D):K),.n (d:K),.n (c:K),h,.n (g:K),.f (pos 85) []] T:=by rw[IH.2.2.2.2.2.2.1];simp only[Q,QT,Yd,xc,ZR, *]
     grind
    .let⟨yd,xC,xa⟩:=p2 q y z (by omega) (by omega)
     cases xi:partitionEqual BL f c d e with
     |mk k x6=>
     rw[xi]at xC xa
     simp only[]at xC xa
     have yg:BL f[c-1]! f[e]! =Aa:=by rw[IK,A2 xc]
     let⟨xq,xR,xG,x0,xe⟩:=round_eq N (partitionEqual_holds BL) xL y z (by omega) s yg xi
     let⟨xg,M,yi,xs,yl,yo⟩:=U8 N I k d g n m (by omega) xa xR (by omega) (by omega) r x0
     let⟨xj,xk⟩:=xe M yl yo
     refine⟨xg,M,?_,xs,xj,xk⟩
     rw[IH.2.2.2.2.2.2.1]
     simp only[Q,QT,AdM,xw,Yd,xc,yi,ZR, *]
   .have xw:¬(0:K)<(c:K):=by omega
    have v:=xT w R r y z s;have:jj W9 185 3 [.b n,.b m,.n (e:K),.n ((d-c:D):K),.n (d:K),.n (c:K),h,.n (g:K),.f (pos 85) []] l=jj W9 185 2 [.n (e:K),.n ((d-c:D):K),.n (d:K),.n (c:K),h,.n (g:K),.f (pos 85) []] l:=by rw[IH.2.2.2.2.2.2.1];simp only[↓Q,↓QT,AdM,xw]
    rw[this];grind
  have xV:∀{l:G}{f:Bg WE}{g e:D}(Y:K),SI t u h l f->f.z=o.z->g<1000->c<=e->e<d->Below BL c d f->O0 t u h c d f (jj W9 185 4 [.n Y,.b n,.b m,.n (e:K),.n ((d-c:D):K),.n (d:K),.n (c:K),h,.n (g:K),.f (pos 85) []] l):=by
   intro l f g e Y w R r y z s;by_cases xc:n=L/\m=L/\Y=1
   .let⟨xI,xK,xo⟩:=xc
    let⟨T,U,q⟩:=p1 w (a:=c) (b:=d) (by omega) (by omega) (by omega)
    let⟨xn,x2⟩:=partialInsertionSort_holds N f c d (by omega) (by omega) s
    cases xA:(partialInsertionSort BL f c d).2 with
    |true=>rw[xA]at U;refine⟨T,_,?_,q,xn,x2 xA⟩;rw[IH.2.2.2.2.2.1,xI,xK,xo];simp only[QY, *]
    |false=>
     rw[xA]at U;have v:=xU q (by rw[xn.1];grind) r y z (s.perm (by omega) xn);have:jj W9 185 4 [.n Y,.b n,.b m,.n (e:K),.n ((d-c:D):K),.n (d:K),.n (c:K),h,.n (g:K),.f (pos 85) []] l=jj W9 185 3 [.b n,.b m,.n (e:K),.n ((d-c:D):K),.n (d:K),.n (c:K),h,.n (g:K),.f (pos 85) []] T:=by rw[IH.2.2.2.2.2.1,xI,xK,xo];simp only[QY, *]
     rw[this];exact v.bR xn
   .have v:=xU w R r y z s;have:jj W9 185 4 [.n Y,.b n,.b m,.n (e:K),.n ((d-c:D):K),.n (d:K),.n (c:K),h,.n (g:K),.f (pos 85) []] l=jj W9 185 3 [.b n,.b m,.n (e:K),.n ((d-c:D):K),.n (d:K),.n (c:K),h,.n (g:K),.f (pos 85) []] l:=by
     rw[IH.2.2.2.2.2.1]
     cases n with
     |false=>simp only[↓Q]
     |true=>
      cases m with
      |false=>simp only[↓Q]
      |true=>
       have xo:¬Y=1:=by grind
       simp only[↓Q,↓QT,AdM,xo]
    rw[this];grind
  have xW:∀{l:G}{f:Bg WE}{g:D},SI t u h l f->f.z=o.z->g<1000->Below BL c d f->O0 t u h c d f (jj W9 185 5 [.b n,.b m,.n ((d-c:D):K),.n (d:K),.n (c:K),h,.n (g:K),.f (pos 85) []] l):=by
   intro l f g w R r s;let⟨e,xD,T,U,xS,yk,q⟩:=pZ w (c:=c) (d:=d) (by omega) (by omega) (by omega)
   by_cases x3:xD=2
   .subst x3;let⟨yd,xC,xa⟩:=p0 q (b:=c) (a:=d) (by omega) (by omega) (by omega)
    have xv:=reverseRange_holds f c d xh (by omega);have xX:=JU (a:=d) (by omega) (by omega);have yp:=Mu (a:=e) (b:=c) xS (by omega);have yq:=Mu (a:=d-1) (b:=e-c) (by omega) (by omega);have v:=xV (e:=d-1-(e-c)) 1 xa (by rw[xv.1];grind) r (by omega) (by omega) (s.perm (by omega) xv);rw[IH.2.2.2.2.1];simp only[QY, *];exact v.bR xv
   .have v:=xV (e:=e) xD q R r xS yk s;have:jj W9 185 5 [.b n,.b m,.n ((d-c:D):K),.n (d:K),.n (c:K),h,.n (g:K),.f (pos 85) []] l=jj W9 185 4 [.n xD,.b n,.b m,.n (e:K),.n ((d-c:D):K),.n (d:K),.n (c:K),h,.n (g:K),.f (pos 85) []] T:=by rw[IH.2.2.2.2.1];simp only[QY, *]
    rw[this];grind
  rw[IH.2.1]
  simp only[QY,IH.2.2.1, *]
  cases xP:n with
  |true=>
   have v:=xW xm B yf xO;rw[xP]at v;have:jj W9 185 6 [.b L,.b m,.n ((d-c:D):K),.n (d:K),.n (c:K),h,.n (E:K),.f (pos 85) []] xf=jj W9 185 5 [.b L,.b m,.n ((d-c:D):K),.n (d:K),.n (c:K),h,.n (E:K),.f (pos 85) []] xf:=by rw[IH.2.2.2.1];simp only[QY, *]
   rw[this];grind
  |false=>
   let⟨xp,x5,xB,Z,xu⟩:=pY xm (c:=c) (d:=d) (by omega) X yh
   have xX:=JU (a:=E) (by omega) (by omega);have v:=xW (g:=E-1) Z xu.1 (by omega) (xO.perm X xu);rw[xP]at v;rw[IH.2.2.2.1];simp only[QY, *];exact v.bR xu
def pc(p:SWO BL){e:C WE}{h b:G}{c:F}{a:Bg WE}(f:SI e h c b a)(q:a.z<200000):∃g d,W9 (pos 132) [c,.f (pos 85) []] b=A (.AB [],g)/\SI e h c g d/\PermIn 0 a.z a d/\SortedIn BL 0 a.z d:=by
 have s:=Cp f.Cs;rw[AeI]at s;have w:=Uq (d:=.n) (a:=a.z) (by omega) (by omega);let⟨l,_,_,r⟩:=fQ (b:=a.z) (by omega)
 let⟨i,o,j,m,t,u⟩:=U8 p a.z 0 a.z l L L (by omega) f (by omega) (CK _) q (by omega) (.i B)
 have j:=j;have v:W9 (pos 185) [c,.n 0,.n a.z,.n l,.f (pos 85) []] b=A (.AB [],i):=AZ B B (by rw[IH.1];grind);refine⟨i,o,AZ B B ?_,m,t,u⟩;rw[r2];simp only[QY,H (r b), *]
structure NQ{e:Type}(c:e->e->K):Prop where
 Ma:∀a b,c b a= -c a b
 zero:∀a b,c a b=0->a=b
 AI:∀a b d,c a b<0->c b d<0->c a d<0
def NQ.wW{b:Type}{c:b->b->K}(d:NQ c)(a:b):c a a=0:=by have:=d.Ma a a;omega
def bM:NQ H6 where
 Ma:=λb c=>by unfold H6;split<;>split<;>omega
 zero:=λb c a=>by
  unfold H6 at a;split at a;.omega
  .grind
 AI:=λb c f d e=>by
  unfold H6 at*;split at d;.grind
  .grind
def iB{p l m:Type}{n:l->l->K}{o:m->m->K}(f:NQ n)(k:NQ o)(c:p->l)(d:p->m)(q:∀a b,c a=c b->d a=d b->a=b):NQ λa b=>IN (n (c a) (c b)) (o (d a) (d b))where
 Ma:=λa b=>by unfold IN;have s:=f.Ma (c a) (c b);have t:=k.Ma (d a) (d b);split<;>split<;>omega
 zero:=λa b i=>by
  unfold IN at i;split at i;.omega
  .rename_i e;exact q a b (f.zero _ _ (AdS e)) (k.zero _ _ i)
 AI:=λa b u e g=>by
  unfold IN at*;split at e
  .split at g;.have:=f.AI _ _ _ e g;rw[Af (by omega)];grind
   .rename_i j;have h:=f.zero _ _ (AdS j);rw[<-h,Af (by omega)];grind
  .rename_i j;have h:=f.zero _ _ (AdS j);rw[h];split at g;.grind
   .rename_i r;rw[Ad r];exact k.AI _ _ _ e g
def Vu:NQ Lo:=iB bM bM _ Bf.Az λa b c d=>by cases a;cases b;simp_all
def uZ:NQ Ge where
 Ma:=λb=>by
  induction b with
  |nil=>intro a;cases a<;>rfl
  |cons i b j=>
   intro a
   cases a with
   |nil=>rfl
   |cons e a=>have c:=Vu.Ma i e;have:=j a;unfold Ge;split<;>split<;>omega
 zero:=λb=>by
  induction b with
  |nil=>intro a c;cases a;rfl;cases c
  |cons i b j=>
   intro a c
   cases a with
   |nil=>cases c
   |cons e a=>
    unfold Ge at c;split at c;.omega
    .rename_i g;rw[Vu.zero i e (AdS g),j a c]
 AI:=λb=>by
  induction b with
  |nil=>
   intro a h f d
   cases h with
   |nil=>cases a with
    |nil=>grind
    |cons e a=>unfold Ge at d;omega
   |cons l h=>unfold Ge;omega
  |cons i b j=>
   intro a h f d
   cases a with
   |nil=>unfold Ge at f;omega
   |cons e a=>
    cases h with
    |nil=>unfold Ge at d;omega
    |cons l h=>
     unfold Ge at f d⊢;split at f
     .split at d;.have:=Vu.AI _ _ _ f d;rw[Af (by omega)];grind
      .rename_i g;have k:=Vu.zero _ _ (AdS g);rw[<-k,Af (by omega)];grind
     .rename_i g;have k:=Vu.zero _ _ (AdS g);rw[k];split at d;.grind
      .grind
def LU:NQ D6:=iB uZ bM _ Bt.Ax λa b c d=>by cases a;cases b;simp_all
def AaF:SWO BL where
 irrefl:=λf=>by rw[IK,LU.wW];decide
 trans:=λf b c a d=>by rw[IK,AdV]at*;exact LU.AI _ _ _ a d
 ntrans:=λf b c a d=>by
  rw[IK,AfE]at*;intro e;have h:=LU.Ma b.2 c.2;by_cases g:D6 b.2 c.2=0;.rw[<-LU.zero _ _ g]at e;grind
  .exact a (LU.AI _ _ _ e (by omega))
def MS(a b:Bt):Ah:=Ao (D6 a b<=0)
def j0{c d:C _}(g:c.Pairwise λa b=>D6 a b<=0)(h:d.Pairwise λa b=>D6 a b<=0)(i:c.Perm d):c=d:=
 List.Perm.eq_of_pairwise (le:=λa b=>D6 a b<=0) (λe f _ _ j k=>LU.zero e f (by have:=LU.Ma e f;omega)) g h i
def VT(a:C Bt):C Bt:=a.mergeSort MS
def hw(b a c:Bt)(f:MS b a=L)(g:MS a c=L):MS b c=L:=by
 unfold MS at*;rw[AdV]at*;by_cases d:D6 b a=0;.rw[LU.zero _ _ d];grind
 .by_cases e:D6 a c=0;.rw[<-LU.zero _ _ e];grind
  .exact Int.le_of_lt (LU.AI b a c (by omega) (by omega))
def tn(a b:Bt):(MS a b||MS b a)=L:=by unfold MS;have:=LU.Ma a b;rw[AeS,AdV,AdV];omega
def jZ(a:C _):(VT a).Pairwise λc d=>D6 c d<=0:=(List.pairwise_mergeSort hw tn a).imp λ{e f} b=>Afg b
def Yn(a:C _):(VT a).Perm a:=List.mergeSort_perm a _
end Go.Proofs.YtbmnfifnenajjaaGreat
namespace Go.Proofs.YtbmnfifnenajjaaGreat
open Go.Fg
def Mg(a:Ai):D->D->C Bf
 |0,_=>[]
 |c+1,b=>if(a.at b).AP= -1 then[]else⟨(a.at b).Ax,(a.at b).Az⟩::Mg a c (a.at b).AP.n
def FX(b:Ai)(a:D):C Bf:=(Mg b (a+1) a).reverse
theorem SH(a:Ai)(c b:D):Mg a (c+1) b=if(a.at b).AP= -1 then[]else⟨(a.at b).Ax,(a.at b).Az⟩::Mg a c (a.at b).AP.n:=rfl
def SG(b:Ai):∀(a c:D),(Mg b a c).l<=a
 |0,_=>CK _
 |a+1,c=>by
  unfold Mg;split;.grind
  .have:=SG b a (b.at c).AP.n;grind
def hN{g:CI}{X:T->Bm}{e:G}{d:Ai}{z:Lm}(r:EB X e g.l g.es g.k g.x d z)(I:CF g.l d):∀(c b:D),b<c->∀(a:AK),d.Ac[b]? =A a->∀(i:C Bf)(n:F)(j:G),AH e j->Aw j n Bf.c 2 i->Dx e n->i.l+c<=100000->∃o k,jj W9 59 2 [.p g.x 0,.p (z.pc b) 0,n] j=jj W9 59 1 [o] k/\Aw k o Bf.c 2 (i++Mg d c b)/\AH e k/\Dx e o
 |0,b,U,_,_,_,_,_,_,_,_,_=>by omega
 |c+1,b,U,a,l,i,n,j,E,V,p,xb=>by
  have xj:=((r.ext E).BC b a l).M;by_cases t:a.AP= -1
  .refine⟨n,j,?_,?_,E,p⟩;.rw[S5.2.2.1];simp only[QY, *]
   .have:Mg d (c+1) b=[]:=by rw[SH,DK l,Af t]
    rw[this,Ad5];grind
  .let⟨v,xd,Q,Y,xh,h⟩:=(I.up b a l).resolve_left t
   have xa:Cb [(.n 0),(.n 0)] [(0,1),(1,1)] [.n a.Ax,.n a.Az]=A (.S (Bf.c ⟨a.Ax,a.Az⟩)):=B;let⟨J,u,xf,W,M,R⟩:=FJ (f:=Bf.c) (w:=2) (b:=⟨a.Ax,a.Az⟩) (o:=.S (Bf.c ⟨a.Ax,a.Az⟩)) (h:=16) (λ_=>B) B B V (DG (by omega))
   have H:AH e u:=λm q=>⟨(M.M P (p m q)).t P,M.lv P (p m q)⟩;have s:=r.ext H;have xm:=s.M;have xl:u.Ap (z.pc b) 1=A (.n v):=by rw[Ay (s.BC b a l).M];show A (F.n a.AP)=_;rw[h.AP]
   let⟨Z,xc,xk⟩:=s.Lf h.Cc
   have xg:=h.lt;let⟨o,k,xe,xi,N,S⟩:=hN r I c v (by omega) Q h.Cc (i++[⟨a.Ax,a.Az⟩]) J u H W (λm q=>R m P (p m q):Dx e J) (by grind)
   refine⟨o,k,?_,?_,N,S⟩;.rw[S5.2.2.1];simp only[QY,S5.2.2.2.1,S5.2.2.2.2, *]
   .have:Mg d (c+1) b=⟨a.Ax,a.Az⟩::Mg d c v:=by rw[SH,DK l,Ad t,h.AP,AdR]
    grind
def u7{q:Type}{c:q->C F}{a:D}(e:∀d,(c d).l=a)(S:∀d,BU (c d)=L){k:G}{b:F}{l:C q}(p:Aw k b c a l){f g:D}{d i:q}(o:l[f]? =A d)(t:l[g]? =A i):
  ∃s m,AR a [b,.n f]=A (.p (ub b) (f*a))/\AR a [b,.n g]=A (.p (ub b) (g*a))/\k.AL (ub b) (f*a) a=A (c d)/\k.AL (ub b) (g*a) a=A (c i)/\
   AX a k [.p (ub b) (f*a),.S (c i)]=A (AC,s)/\AX a s [.p (ub b) (g*a),.S (c d)]=A (AC,m)/\Aw m b c a ((l.set f i).set g d)/\(∀h,As b h->m.M h=k.M h)/\∀h,Lv m h=Lv k h:=by
 let⟨R,j⟩:=CD e p o
 let⟨w,n⟩:=CD e p t
 have I:=j.only w n.nb
 subst I
 let⟨E,v⟩:=j.set e p o (c:=i) (g:=.S (c i)) B P
 have M:g<(l.set f i).l:=by grind
 let⟨U,u⟩:=Bb M
 let⟨x,r⟩:=CD e v u
 have J:=j.only x r.nb
 subst J
 let⟨H,N⟩:=r.set e v u (c:=d) (g:=.S (c d)) B P
 have Q:=j.nb
 rw[cP Q]
 exact⟨_,_,j.ia,n.ia,j.AL e o,n.AL e t,E,H,N,λh T=>by rw[AN,Ad P,AN,Ad P],P⟩
structure Rv{e:Type}(b c:C e)(d:D):Prop where
 A7:c.l=b.l
 Cc:∀a,a<b.l->c[a]? =b[if a<d\/b.l-d<=a then b.l-1-a else a]?
def Rv.zero{b:Type}(a:C b):Rv a a 0:=⟨B,P⟩
def Rv.Dj{k:Type}{b c:C _}{a:D}(d:Rv b c a)(n:a<b.l-1-a){f g:k}(o:c[a]? =A f)(p:c[b.l-1-a]? =A g):Rv b ((c.set a g).set (b.l-1-a) f) (a+1)where
 A7:=by rw[Aed,Aed];exact d.A7
 Cc:=λe h=>by
  have i:=d.Cc a (by omega);have j:=d.Cc (b.l-1-a) (by omega);rw[Ad (by omega)]at i j;by_cases l:e=b.l-1-a;.grind
  .rw[AeJ Om];by_cases m:e=a;.grind
   .rw[AeJ Om,d.Cc e h];grind
def Rv.Sp{g:Type}{a c:C g}{b:D}(d:Rv a c b)(h:¬b<a.l-1-b)(i:b<=a.l):c=a.reverse:=by
 refine AeP λf=> ?_;by_cases e:f<a.l;.rw[d.Cc f e,List.getElem?_reverse e];grind
 .rw[Af4 (by rw[d.A7];omega),Af4 (by grind)]
def hH{g:G}{k:F}{b:C Bf}(E:b.l<1000000):∀(h a:D)(e:C Bf)(d:G),b.l-2*a<=h->2*a<=b.l+1->Rv b e a->Aw d k Bf.c 2 e->(∀c,As k c->d.M c=g.M c)->(∀c,Lv d c=Lv g c)->∃n,jj W9 118 1 [k,.n a,.n (b.l-1-a)] d=A (.AB [],n)/\Aw n k Bf.c 2 b.reverse/\(∀c,As k c->n.M c=g.M c)/\∀c,Lv n c=Lv g c
 |h,a,e,d,xb,xa,m,M,v,I=>by
  by_cases p:a<b.l-1-a
  .cases h with
   |zero=>omega
   |succ h=>
   have o:(a:K)<(b.l:K)-1-a:=by omega
   have u:(b.l:K)-1-a=((b.l-1-a:D):K):=by omega
   let⟨xe,q⟩:=Bb (b:=e) (a:=a) (by rw[m.A7];omega)
   let⟨xf,r⟩:=Bb (b:=e) (a:=b.l-1-a) (by rw[m.A7];omega)
   let⟨Z,y,S,T,U,V,W,X,N,Y,xd⟩:=u7 (c:=Bf.c) (a:=2) (λ_=>B) (λ_=>B) M q r
   have s:=JU (a:=b.l-1-a) (by omega) (by omega)
   have t:((b.l-1-a-1:D):K)=(b.l:K)-1-((a+1:D):K):=by omega
   rw[t]at s
   let⟨z,xc,R,x,J⟩:=hH (g:=g) E h (a+1) _ y (by omega) (by omega) (m.Dj p q r) N P P
   refine⟨z,?_,R,x,J⟩
   rw[u]at o⊢
   rw[UP.2.1]
   simp only[QY,UP.2.2.1,UP.2.2.2,H (Bh (a:=a) (by omega)), *]
  .have o:¬a<(b.l:K)-1-a:=by omega
   refine⟨d,?_,by rw[<-m.Sp p (by omega)];grind,v,I⟩;rw[UP.2.1];simp only[↓Q,↓QT,AdM,o]
def o_{d:G}{g:F}{c:C Bf}(h:Aw d g Bf.c 2 c)(k:c.l<1000000):∃f,W9 (pos 118) [g] d=A (.AB [],f)/\Aw f g Bf.c 2 c.reverse/\(∀e,As g e->f.M e=d.M e)/\∀e,Lv f e=Lv d e:=by
 have p:=Cp h;have n:=FA (a:=c.l) (b:=1) (by omega) (by omega);let⟨j,o,m,i,l⟩:=hH (g:=d) k c.l 0 c d (by omega) (by omega) (Rv.zero c) h P P
 refine⟨j,AZ B B ?_,m,i,l⟩;rw[UP.1];grind
def gi{c:CI}{r:T->Bm}{a:G}{d:Ai}{s:Lm}(g:EB r a c.l c.es c.k c.x d s)(j:CF c.l d){b:D}{k:AK}(i:d.Ac[b]? =A k):∃e h,W9 (pos 59) [.p c.x 0,.n b] a=A (e,h)/\Aw h e Bf.c 2 (FX d b)/\AH a h/\Dx a e:=by
 have F:=g.M;let⟨u,_,_⟩:=g.Lf i
 have w:=(AdN.1 i).1;have v:=j.A7;let⟨e,_,y,m,t,l⟩:=hN g j (b+1) b (by omega) k i [] .sn a (AH.refl a) (Aw.sn a) (λf _=>Cg f) (by grind)
 rw[Af2]at m;have x:=SG d (b+1) b;let⟨o,z,q,n,E⟩:=o_ m (by omega)
 refine⟨e,o,AZ B B ?_,q,λf p=>⟨(n f (l f p)).t P,by grind⟩,l⟩;rw[S5.1];simp only[QY,S5.2.1, *]
