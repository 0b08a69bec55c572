/- Part of the proof. -/
import Derived.Sort.LotD3
import Derived.Test.YtmnfpdedgnfeiaaGreatMbi
set_option linter.all false
noncomputable section
open Option renaming some->A,none->O,getD->Option.g,bind->Option.b
open _root_ renaming rfl->B,List->C,Nat->D,Int->K,if_neg->Ad,if_pos->Af,Bool->Ak,cond->An,absurd->A_,decide_eq_false->Ba,decide_eq_true->Be,Array->Br
open Bool renaming true->L,false->Ac
open Decidable renaming decide->Au
open Nat renaming beq->Bb,ble->Co,le_refl->C6
open List renaming length->List.l,take->List.t,flatMap->List.f
open Go.IntKind renaming i64->Go.IntKind.n
open Array renaming toList->Array.l,size->Array.z
open Eq renaming trans->Eq.t,symm->Eq.s
open Or renaming inl->Or.i
open Int renaming toNat->Int.n
namespace Go.Proofs.YtmnfpdedgnfeiaaGreat
open Go.Fg Go.Sort
variable{a:D}
def bm(b:a<1000000000):A7 .sub [.n a,.n 1]=A (.n (a-1)):=Gu (by omega) (by omega)
def mm(d c:D):∀(b:D)(a:Br _),(heapBuild B4 d c b a).z=a.z
 |0,a=>rfl
 |b+1,a=>by unfold heapBuild;rw[mm _ _ b,Xc _ _ _ b a (C6 _)]
def fW{h:C _}{l:G}{f:F}(d c:D):∀(a:D){e:G}{b:Br _},SI h l f e b->c+d<=b.z->b.z<100000000->a<100000000->∃j,jj W9 192 5 [.n (a-1),.n d,f,.n 0,.n c,.f (Ar 42) []] e=jj W9 192 4 [.n d,f,.n 0,.n c,.f (Ar 42) []] j/\SI h l f j (heapBuild B4 d c a b)
 |0,e,b,g,m,n,s=>by
  have i:¬0<=((0:D):K)-1:=by omega
  refine⟨e,?_,g⟩;rw[N9.2.2.1];simp only[↓Q,↓QT,Aic,i]
 |a+1,e,b,g,m,n,s=>by
  have q:(a+1:D)-1=(a:K):=by omega
  rw[q];have i:0<=(a:K):=by omega
  let⟨t,_,o⟩:=ip g (b:=a) m n (by omega)
  have u:=Xc _ c (d-a) a b (C6 _);let⟨r,_,p⟩:=fW d c a o (by grind) (by grind) (by omega)
  refine⟨r,?_,p⟩;rw[N9.2.2.1];simp only[QY,N9.2.2.2.1,N9.2.2.2.2.1,H (bm (a:=a) (by omega)), *]
def li{l:C WE}{o:G}{g:F}(d:D):∀(c:D){f:G}{e:Br WE},SI l o g f e->d+c<=e.z->d<e.z->e.z<100000000->∃n,jj W9 192 1 [g,.n 0,.n d,.f (Ar 42) [],.n (c-1)] f=A (.AC [],n)/\SI l o g n (heapPop B4 d c e)
 |0,f,e,h,y,p,z=>by
  have m:¬0<=((0:D):K)-1:=by omega
  refine⟨f,?_,h⟩;rw[N9.2.2.2.2.2.1];simp only[↓Q,↓QT,Aic,m]
 |c+1,f,e,h,y,p,z=>by
  have u:(c+1:D)-1=(c:K):=by omega
  rw[u];have m:0<=(c:K):=by omega
  have S:=Ng (a:=d) (b:=c) (by omega);let⟨T,v,I,J,M,N,P,R,r⟩:=h.Lo (d:=d) (c:=d+c) p (by omega)
  let⟨w,q,s⟩:=ip r (b:=0) (a:=c) (d:=d) (by rw[size_swp];omega) (by rw[size_swp];grind) (by omega)
  have q:W9 (Ar 233) [g,.n 0,.n (c:K),.n (d:K),.f (Ar 42) []] v=A (.AC [],w):=q;have E:=Xc c d (c-0) 0 (swp e d (d+c)) Om;rw[size_swp]at E;let⟨x,_,t⟩:=li d c s (by grind) (by grind) (by grind)
  refine⟨x,?_,t⟩;rw[N9.2.2.2.2.2.1];simp only[QY,N9.2.2.2.2.2.2.1,N9.2.2.2.2.2.2.2,H (bm (a:=c) (by omega)), *]
variable{c d:D}{j:G}
def tI{g:C _}{h:G}{f:F}{e:Br _}(l:SI g j f h e)(r:c<d)(s:d<=e.z)(p:e.z<100000000):∃i,W9 (Ar 192) [f,.n c,.n d,.f (Ar 42) []] h=A (.AC [],i)/\SI g j f i (heapSort B4 e c d):=by
 have t:=Nc (a:=d) (b:=c) (by omega) (by omega);have u:=bm (a:=d-c) (by omega);have v:A7 .quo [.n ((d-c:D)-1),.n 2]=A (.n ((((d-c-1)/2+1:D))-1)):=by have:=WX (a:=d-c-1) (b:=2) (by omega) (by omega);grind
 let⟨q,_,m⟩:=fW (d-c) c ((d-c-1)/2+1) l (by omega) p (by omega)
 have w:=mm (d-c) c ((d-c-1)/2+1) e;let⟨o,_,n⟩:=li c (d-c) m (by grind) (by grind) (by grind)
 refine⟨o,Bd B B ?_,n⟩;rw[N9.1];simp only[QY,N9.2.1, *]
def lV{g:C _}{m:G}{f:F}:∀(d a b:D){e:G}{c:Br _},b-a<=d->SI g m f e c->b<c.z->a<100000000->c.z<100000000->∃l,jj W9 195 1 [f,.n a,.n b] e=A (.AC [],l)/\SI g m f l (reverseLoop a b c)
 |d,a,b,e,c,y,n,q,x,z=>by
  by_cases h:a<b
  .cases d with
   |zero=>omega
   |succ d=>
   have k:a<(b:K):=by omega
   let⟨w,_,_,_,s,t,u,v,o⟩:=n.Lo (d:=a) (c:=b) (by omega) q
   let⟨p,E,r⟩:=lV d (a+1) (b-1) (by omega) o (by rw[size_swp];omega) (by omega) (by rw[size_swp];grind)
   refine⟨p,?_,?_⟩
   .rw[Y6.2.1];simp only[QY,Y6.2.2,H (BF (a:=a) (by omega)),H (KG (a:=b) (by omega) (by omega)), *]
   .rw[reverseLoop,Af h];grind
  .have k:¬a<(b:K):=by omega
   refine⟨e,?_,?_⟩;.rw[Y6.2.1];simp only[↓Q,↓QT,Aic,k]
   .rw[reverseLoop,Ad h];grind
variable{b:D}
def tL{e:C _}{h f:G}{d:F}{c:Br WE}(i:SI e h d f c)(o:b<a)(p:a<=c.z)(m:c.z<100000000):∃g,W9 (Ar 195) [d,.n b,.n a,.f (Ar 42) []] f=A (.AC [],g)/\SI e h d g (reverseRange c b a):=by
 let⟨l,n,k⟩:=lV (a-1-b) b (a-1) Om i (by omega) (by omega) m
 refine⟨l,Bd B B ?_,k⟩;rw[Y6.1];simp only[↓H (KG (a:=a) (by omega) (by omega)),n]
def l9{o:C WE}{r:G}{l:F}(n m:F)(b:D):∀(e a:D){k:G}{c:Br WE},b-a<=e->SI o r l k c->1<=a->a<=b->b<=c.z->c.z<100000000->∃q,jj W9 196 16 [n,m,.n a,.n b,.f (Ar 42) [],l] k=jj W9 196 15 [n,m,.n (scanSorted B4 c b a),.n b,.f (Ar 42) [],l] q/\SI o r l q c/\a<=scanSorted B4 c b a/\scanSorted B4 c b a<=b
 |e,a,k,c,N,f,J,M,v,w=>by
  by_cases y:a<b
  .cases e with
   |zero=>omega
   |succ e=>
   have g:a<(b:K):=by omega
   let⟨P,V⟩:=f.rd (a:=a) (by omega)
   let⟨R,W⟩:=f.rd (a:=a-1) (by omega)
   let⟨t,S,p⟩:=f.N0 (k:=a) (l:=a-1) (by omega) (by omega)
   have z:=KG (a:=a) (by omega) (by omega)
   have I:DW [.b L]=A (.b Ac):=B
   have E:DW [.b Ac]=A (.b L):=B
   by_cases h:GL c[a]!.2 c[a-1]!.2<0
   .have d:scanSorted B4 c b a=a:=by
     rw[scanSorted,Ad]
     rw[Aie,Jf,Be h]
     grind
    refine⟨t,?_,p,by grind,by grind⟩
    rw[d,EG.2.2.2.2.2.2.1]
    simp only[Q,QT,g,Z7,h,ZR, *]
   .have d:scanSorted B4 c b a=scanSorted B4 c b (a+1):=by
     conv=>lhs;rw[scanSorted]
     rw[Af]
     rw[Aie,Ain,Jf,Ba h]
     grind
    let⟨u,x,s,T,U⟩:=l9 n m b e (a+1) (by omega) p (by omega) (by omega) v w
    refine⟨u,?_,s,by grind,by grind⟩
    rw[d,EG.2.2.2.2.2.2.1]
    simp only[Q,QT,Aic,g,Z7,h,EG.2.2.2.2.2.2.2.1,H (BF (a:=a) (by omega)),x,ZR, *]
  .have g:¬a<(b:K):=by omega
   have d:scanSorted B4 c b a=a:=by rw[scanSorted,Ad];grind
   refine⟨k,?_,f,by grind,by grind⟩;rw[d,EG.2.2.2.2.2.2.1];simp only[↓Q,↓QT,Aic,g]
def mo:∀(b:D)(a:Br _),(shiftDown B4 b a).z=a.z
 |0,a=>rfl
 |b+1,a=>by
  unfold shiftDown;split;.rfl
  .rw[mo b,size_swp]
def mq(c:D):∀(d b:D)(a:Br _),c-b<=d->(shiftUp B4 c b a).z=a.z
 |0,b,a,e=>by rw[shiftUp,Ad (by omega)]
 |d+1,b,a,e=>by
  rw[shiftUp];split
  .split;.rfl
   .rw[mq c d _ _ (by omega),size_swp]
  omega
def gJ{o:C WE}{q:G}{h:F}(m k n l:F):∀(a:D){d:G}{b:Br WE},SI o q h d b->a<b.z->b.z<100000000->∃p,jj W9 196 9 [.n a,m,k,n,l,.f (Ar 42) [],h] d=jj W9 196 8 [m,k,n,l,.f (Ar 42) [],h] p/\SI o q h p (shiftDown B4 a b)
 |0,d,b,c,g,v=>by
  have e:¬1<=((0:D):K):=by omega
  refine⟨d,?_,c⟩;rw[EG.2.2.2.2.2.2.2.2.2.2.2.1];simp only[↓Q,↓QT,Aic,e]
 |a+1,d,b,c,g,v=>by
  have e:1<=((a+1:D):K):=by omega
  let⟨J,N⟩:=c.rd g
  let⟨M,P⟩:=c.rd (a:=a) (by omega)
  let⟨t,w,r⟩:=c.N0 g (l:=a) (by omega)
  rw[K8]at w;have z:=bk (a:=a) (by omega);have H:DW [.b L]=A (.b Ac):=B;have E:DW [.b Ac]=A (.b L):=B;by_cases f:GL b[a+1]!.2 b[a]!.2<0
  .let⟨I,_,_,_,_,_,_,_,s⟩:=r.Lo g (c:=a) (by omega)
   let⟨u,x,y⟩:=gJ m k n l a s (by rw[size_swp];omega) (by rw[size_swp];grind)
   refine⟨u,?_,?_⟩;.rw[EG.2.2.2.2.2.2.2.2.2.2.2.1];simp only[QY,K8,e,EG.2.2.2.2.2.2.2.2.2.2.2.2.1,f,EG.2.2.2.2.2.2.2.2.2.2.2.2.2.2.1,EG.2.2.2.2.2.2.2.2.2.2.2.2.2.1,x, *]
   .have:shiftDown B4 (a+1) b=shiftDown B4 a (swp b (a+1) a):=by
     show(if _ then _ else _)=_
     rw[Jf,Be f,Ad (by grind)]
    grind
  .refine⟨t,?_,?_⟩;.rw[EG.2.2.2.2.2.2.2.2.2.2.2.1];simp only[QY,K8,e,EG.2.2.2.2.2.2.2.2.2.2.2.2.1,f, *]
   .have:shiftDown B4 (a+1) b=b:=by
     show(if _ then _ else _)=_
     rw[Jf,Ba f,Af (by grind)]
    grind
def m5{p:C WE}{r:G}{h:F}(m k n:F)(b:D):∀(d a:D){g:G}{c:Br WE},b-a<=d->SI p r h g c->1<=a->b<=c.z->c.z<100000000->∃q,jj W9 196 4 [.n a,m,k,n,.n b,.f (Ar 42) [],h] g=jj W9 196 3 [m,k,n,.n b,.f (Ar 42) [],h] q/\SI p r h q (shiftUp B4 b a c)
 |d,a,g,c,P,l,N,M,R=>by
  by_cases o:a<b
  .cases d with
   |zero=>omega
   |succ d=>
   have e:a<(b:K):=by omega
   let⟨S,U⟩:=l.rd (a:=a) (by omega)
   let⟨T,V⟩:=l.rd (a:=a-1) (by omega)
   let⟨u,w,s⟩:=l.N0 (k:=a) (l:=a-1) (by omega) (by omega)
   rw[K8]at w
   have z:=KG (a:=a) (by omega) (by omega)
   have I:DW [.b L]=A (.b Ac):=B
   have E:DW [.b Ac]=A (.b L):=B
   by_cases f:GL c[a]!.2 c[a-1]!.2<0
   .let⟨J,_,_,_,_,_,_,_,t⟩:=s.Lo (d:=a) (c:=a-1) (by omega) (by omega)
    let⟨v,x,y⟩:=m5 m k n b d (a+1) (by omega) t (by omega) (by rw[size_swp];grind) (by rw[size_swp];grind)
    refine⟨v,?_,?_⟩;.rw[EG.2.2.2.2.2.2.2.2.2.2.2.2.2.2.2.1];simp only[QY,K8,e,EG.2.2.2.2.2.2.2.2.2.2.2.2.2.2.2.2.1,f,EG.2.2.2.2.2.2.2.2.2.2.2.2.2.2.2.2.2.2,EG.2.2.2.2.2.2.2.2.2.2.2.2.2.2.2.2.2.1,H (BF (a:=a) (by omega)),x, *]
    .rw[shiftUp,Af o,Jf,Be f,Ad (by grind)];grind
   .refine⟨u,?_,?_⟩;.rw[EG.2.2.2.2.2.2.2.2.2.2.2.2.2.2.2.1];simp only[QY,K8,e,EG.2.2.2.2.2.2.2.2.2.2.2.2.2.2.2.2.1,f, *]
    .rw[shiftUp,Af o,Jf,Ba f,Af (by grind)];grind
  .have e:¬a<(b:K):=by omega
   refine⟨g,?_,?_⟩;.rw[EG.2.2.2.2.2.2.2.2.2.2.2.2.2.2.2.1];simp only[↓Q,↓QT,Aic,e]
   .rw[shiftUp,Ad o];grind
def dV{q:C _}{s:G}{m:F}(e c:D):∀(l f g:D){o:G}{h:Br _},l+f=5->SI q s m o h->e<g->g<=c->c<=h.z->h.z<100000000->∃p,jj W9 196 2 [.n (e:K),.n (g:K),.n (c:K),.f (Ar 42) [],m,.n (f:K)] o=A (.b (partialIns B4 e c l g h).2,p)/\SI q s m p (partialIns B4 e c l g h).1
 |0,f,g,o,h,xb,v,xa,T,S,U=>by
  have y:¬(f:K)<5:=by omega
  refine⟨o,?_,v⟩;rw[EG.2.2.1];simp only[↓Q,↓QT,Aic,y,EG.2.1];rfl
 |l+1,f,g,o,h,xb,v,xa,T,S,U=>by
  have y:(f:K)<5:=by omega
  let⟨R,xc,w,xp,xq⟩:=l9 (.n (f:K)) (.n (e:K)) c (c-g) g Om v (by omega) T S U
  unfold partialIns;generalize scanSorted B4 h c g=d at*;simp only[];by_cases I:d=c
  .have J:(d:K)=(c:K):=by omega
   rw[Af I];refine⟨R,?_,w⟩;rw[EG.2.2.1];simp only[↓Q,↓QT,y,EG.2.2.2.1,xc,EG.2.2.2.2.2.1,J]
  rw[Ad I];have J:¬(d:K)=(c:K):=by omega
  have xr:=Nc (a:=c) (b:=e) (by omega) (by omega);by_cases M:c-e<50
  .have X:((c-e:D):K)<50:=by omega
   rw[Af M];refine⟨R,?_,w⟩;rw[EG.2.2.1];simp only[QY,EG.2.2.2.1,EG.2.2.2.2.2.1,EG.2.2.2.2.2.2.2.2.1, *]
  rw[Ad M];have X:¬((c-e:D):K)<50:=by omega
  let⟨xl,xm,xf,xg,xh,xi,xj,xk,E⟩:=w.Lo (d:=d) (c:=d-1) (by omega) (by omega)
  have xe:=KG (a:=d) (by omega) (by omega);have xs:=Nc (a:=d) (b:=e) (by omega) (by omega);have xt:=Nc (a:=c) (b:=d) (by omega) (by omega);have W:∀{k:Br WE}{t:G},SI q s m t k->k.z=h.z->∃p,jj W9 196 8 [.n (f:K),.n (e:K),.n (d:K),.n (c:K),.f (Ar 42) [],m] t=A (.b (partialIns B4 e c l d (if c-d>=2 then shiftUp B4 c (d+1) k else k)).2,p)/\SI q s m p (partialIns B4 e c l d (if c-d>=2 then shiftUp B4 c (d+1) k else k)).1:=by
   intro k t r xn;by_cases P:c-d>=2
   .have Z:(2:K)<=((c-d:D):K):=by omega
    rw[Af P];let⟨u,V,n⟩:=m5 (.n (f:K)) (.n (e:K)) (.n (d:K)) c (c-(d+1)) (d+1) Om r (by omega) (by omega) (by omega)
    have xu:=mq c (c-(d+1)) (d+1) k Om;let⟨z,xd,x⟩:=dV e c l (f+1) d (by omega) n (by omega) (by omega) (by omega) (by omega)
    refine⟨z,?_,x⟩;rw[EG.2.2.2.2.2.2.2.2.2.2.1];simp only[QY,H (BF (a:=d) (by omega)),EG.2.2.2.2.1,H (BF (a:=f) (by omega)), *]
   .have Z:¬(2:K)<=((c-d:D):K):=by omega
    rw[Ad P];let⟨z,xd,x⟩:=dV e c l (f+1) d (by omega) r (by omega) (by omega) (by omega) (by omega)
    refine⟨z,?_,x⟩;rw[EG.2.2.2.2.2.2.2.2.2.2.1];simp only[QY,EG.2.2.2.2.1,H (BF (a:=f) (by omega)), *]
  by_cases N:d-e>=2
  .have Y:(2:K)<=((d-e:D):K):=by omega
   rw[Af N];let⟨t,xo,r⟩:=gJ (.n (f:K)) (.n (e:K)) (.n (d:K)) (.n (c:K)) (d-1) E (by rw[size_swp];omega) (by rw[size_swp];grind)
   let⟨u,V,n⟩:=W r (by rw[mo,size_swp])
   refine⟨u,?_,n⟩;rw[EG.2.2.1];simp only[QY,EG.2.2.2.1,EG.2.2.2.2.2.1,EG.2.2.2.2.2.2.2.2.1,EG.2.2.2.2.2.2.2.2.2.1, *]
  .have Y:¬(2:K)<=((d-e:D):K):=by omega
   rw[Ad N];let⟨u,V,n⟩:=W E (by rw[size_swp])
   refine⟨u,?_,n⟩;rw[EG.2.2.1];simp only[QY,EG.2.2.2.1,EG.2.2.2.2.2.1,EG.2.2.2.2.2.2.2.2.1,EG.2.2.2.2.2.2.2.2.2.1, *]
variable{e:G}
def tM{g:C _}{d:F}{c:Br _}(l:SI g j d e c)(p:a<b)(n:b<=c.z)(o:c.z<100000000):∃h,W9 (Ar 196) [d,.n a,.n b,.f (Ar 42) []] e=A (.b (partialInsertionSort B4 c a b).2,h)/\SI g j d h (partialInsertionSort B4 c a b).1:=by
 let⟨k,f,m⟩:=dV a b 5 0 (a+1) B l (by omega) (by omega) n o
 have f:jj W9 196 2 [.n a,.n (a+1:D),.n b,.f (Ar 42) [],d,.n 0] e=A (.b (partialInsertionSort B4 c a b).2,k):=f;refine⟨k,Bd B B ?_,m⟩;rw[EG.1];simp only[↓H (BF (a:=a) (by omega)),f]
def SY(p f:Ak)(n o e m d g:F)(c:G)(k l:G->R):R:=
 (A7 .leq [n,o]).b λa=>
 (An (AO L a) (A m) (A Ax)).b λq=>
 (An (AO L a) (A g) (A Ax)).b λt=>
 (An (AO L a) (A (An f d e)) (A Ax)).b λu=>
 (An (AO L a) (AZ 2 [t,u]) (A Ax)).b λi=>
 (An (AO L a) (Bf 2 c [i]) (A Ax)).b λj=>
 (An (AO L a) (A g) (A Ax)).b λv=>
 (An (AO L a) (A (An f e d)) (A Ax)).b λw=>
 (An (AO L a) (AZ 2 [v,w]) (A Ax)).b λx=>
 (An (AO L a) (Bf 2 c [x]) (A Ax)).b λy=>
 (An (AO L a) ((Du W9 q [j,y] c).b λb=>An (CY 8191 b.2 (CT (AO L a) ⟨8,.ld 2,[i],j⟩ [])) (A b) O) (A (Ax,c))).b λb=>
 (An (AO L a) (A7 .lss [b.1,.n 0]) (A Ax)).b λh=>
 (An p (An (AO L a) (DW [h]) (A Ax)) (A h)).b λr=>
 (C8 [a,r,.b Ac]).b λs=>Dw (k b.2) (l b.2) s
def W7(d c:Ak)(a b:WE):Ak:=An d (!An c (B4 b a) (B4 a b)) (An c (B4 b a) (B4 a b))
variable{g:F}
def es{e k:Ak}{j i l:F}{d:G}{f c:G->R}(m:¬a<=b):SY e k (.n a) (.n b) j i g l d f c=c d:=by
 have h:¬a<=(b:K):=by omega
 unfold SY;cases e<;>simp only[↓Q,↓QT,Aic,h,_root_.cond_true,_root_.cond_false]
variable{s:G}
def l8{q:C WE}{t:G}{p:F}{a:Br WE}(g:SI q t p s a)(h o:Ak){m n:D}(v:m<=n)(l:d<a.z)(k:c<a.z):∃b,SI q t p b a/\∀e f,SY h o (.n m) (.n n) (.n d) (.f (Ar 42) []) (.n c) p s e f=An (W7 h o a[d]! a[c]!) (e b) (f b):=by
 have r:m<=(n:K):=by omega
 let⟨y,E⟩:=g.rd l
 let⟨z,H⟩:=g.rd k
 have x:DW [.b L]=A (.b Ac):=B
 have w:DW [.b Ac]=A (.b L):=B
 cases o with
 |false=>
  let⟨b,u,i⟩:=g.N0 l k
  refine⟨b,i,λe f=> ?_⟩;unfold SY W7;by_cases j:GL a[d]!.2 a[c]!.2<0<;>cases h<;>simp only[Q,QT,Aic,r,_root_.cond_true,_root_.cond_false,Z8,Jf,j,AiA,AiY,AiB,Ai2,ZR, *]
 |true=>
  let⟨b,u,i⟩:=g.N0 k l
  refine⟨b,i,λe f=> ?_⟩;unfold SY W7;by_cases j:GL a[c]!.2 a[d]!.2<0<;>cases h<;>simp only[Q,QT,Aic,r,_root_.cond_true,_root_.cond_false,Z8,Jf,j,AiA,AiY,AiB,Ai2,ZR, *]
def up{r:C WE}{y:G}{e:F}{h p I J:D}{o q:Ak}(k:∀a b g d e c,jj W9 h p [a,b,g,d,e] c=SY o q a b a g d e c (λc=>jj W9 h I [a,b,g,d,e] c) λc=>jj W9 h J [a,b,g,d,e] c)(w:∀a b g d e c,jj W9 h I [a,b,g,d,e] c=(A7 .add [a,.n 1]).b λT=>jj W9 h p [T,b,g,d,e] c){f:Br WE}(d b:D)(l:WE->Ak)(n:∀M,l M=W7 o q M f[d]!)(z:d<f.z)(R:b<f.z)(S:f.z<100000000):∀(j a:D){c:G},b+1-a<=j->SI r y e c f->a<100000000->∃x,jj W9 h p [.n a,.n b,.f (Ar 42) [],.n d,e] c=jj W9 h J [.n (scanUp l f b a),.n b,.f (Ar 42) [],.n d,e] x/\SI r y e x f
 |j,a,c,V,s,U=>by
  by_cases u:a<=b
  .cases j with
   |zero=>omega
   |succ j=>
   let⟨P,t,E⟩:=l8 s o q u (d:=a) (by omega) z
   cases v:l f[a]!with
   |true=>
    let⟨Q,W,N⟩:=up k w d b l n z R S j (a+1) (by omega) t (by omega)
    refine⟨Q,?_,N⟩;rw[scanUp,Af (by grind),k,E,<-n,v,_root_.cond_true,w,H (BF (a:=a) (by omega))];grind
   |false=>refine⟨P,?_,t⟩;rw[scanUp,Ad (by grind),k,E,<-n,v,_root_.cond_false]
  .exact⟨c,by rw[scanUp,Ad (by grind),k,es u],s⟩
def X_{r:C WE}{x:G}{f:F}{h p I J:D}{o q:Ak}(k:∀b a g d f c,jj W9 h p [b,a,g,d,f] c=SY o q b a a g d f c (λc=>jj W9 h I [a,b,g,d,f] c) λc=>jj W9 h J [b,a,g,d,f] c)(v:∀a b g d f c,jj W9 h I [a,b,g,d,f] c=(A7 .sub [a,.n 1]).b λT=>jj W9 h p [b,T,g,d,f] c){e:Br WE}(d b:D)(i:WE->Ak)(n:∀M,i M=W7 o q M e[d]!)(R:1<=b)(y:d<e.z)(S:e.z<100000000):∀(a:D){c:G},SI r x f c e->a<e.z->∃w,jj W9 h p [.n b,.n a,.f (Ar 42) [],.n d,f] c=jj W9 h J [.n b,.n (scanDown i e b a),.f (Ar 42) [],.n d,f] w/\SI r x f w e
 |0,c,l,z=>⟨c,by rw[k,es (by omega)];rfl,l⟩
 |a+1,c,l,z=>by
  by_cases t:b<=a+1
  .let⟨P,s,E⟩:=l8 l o q t (d:=a+1) z y
   cases u:i e[a+1]!with
   |true=>
    let⟨Q,U,N⟩:=X_ k v d b i n R y S a s (by omega)
    refine⟨Q,?_,N⟩;rw[show scanDown i e b (a+1)=scanDown i e b a from Af (by grind),k,E,<-n,u,_root_.cond_true,v,H (bk (a:=a) (by omega))];grind
   |false=>refine⟨P,?_,s⟩;rw[show scanDown i e b (a+1)=a+1 from Ad (by grind),k,E,<-n,u,_root_.cond_false]
  .exact⟨c,by rw[show scanDown _ e b (a+1)=a+1 from Ad (by grind),k,es t],l⟩
def j3{o:C WE}{s:G}{n:F}(b:D):∀(h e c:D){l:G}{a:Br WE},c+1-e<=h->SI o s n l a->1<=e->b<a.z->c<a.z->e<90000000->a.z<90000000->∃r,jj W9 198 2 [.f (Ar 42) [],.n b,n,.n e,.n c] l=A (.AC [.n (partLoop B4 b e c a).1,.b Ac],r)/\SI o s n r (swp (partLoop B4 b e c a).2 (partLoop B4 b e c a).1 b)
 |h,e,c,l,a,Z,w,V,m,t,X,xa=>by
  let⟨T,u,x⟩:=up (o:=Ac) (q:=Ac) In.2.2.2.2.2.2.2.2.2.2.2.1 In.2.2.2.2.2.2.2.2.2.2.2.2.1 b c (λd=>B4 d a[b]!) (λ_=>B) m t (by omega) (c+1-e) e (C6 _) w (by omega)
  have xc:=scanUp_ge (λd=>B4 d a[b]!) a c e;have xe:=(scanUp_spec (λd=>B4 d a[b]!) a c _ e B).2.1;let⟨U,v,p⟩:=X_ (o:=L) (q:=Ac) In.2.2.2.2.2.2.2.2.2.2.2.2.2.2.1 In.2.2.2.2.2.2.2.2.2.2.2.2.2.2.2.1 b (scanUp (λd=>B4 d a[b]!) a c e) (λd=> !B4 d a[b]!) (λ_=>B) (by omega) m (by omega) c x t
  have xd:=scanDown_le (λd=> !B4 d a[b]!) a (scanUp (λd=>B4 d a[b]!) a c e) c;rw[partLoop_eq];generalize W:scanUp (λd=>B4 d a[b]!) a c e=f at*;generalize Y:scanDown (λd=> !B4 d a[b]!) a f c=g at*;by_cases q:f>g
  .have z:g<(f:K):=by omega
   rw[Af q];let⟨M,N,Q,R,S,E,I,J,k⟩:=p.Lo (d:=g) (c:=b) (by omega) m
   refine⟨N,?_,k⟩;rw[In.2.2.2.2.2.2.2.2.2.1,u,In.2.2.2.2.2.2.2.2.2.2.1,v,In.2.2.2.2.2.2.2.2.2.2.2.2.2.1];simp only[QY,In.2.2.2.2.2.2.2.2.1, *]
  .cases h with
   |zero=>omega
   |succ h=>
   have z:¬g<(f:K):=by omega
   rw[Ad q]
   let⟨M,_,_,_,_,E,I,J,k⟩:=p.Lo (d:=f) (c:=g) (by omega) (by omega)
   let⟨P,xb,y⟩:=j3 b h (f+1) (g-1) (by omega) k (by omega) (by rw[size_swp];grind) (by rw[size_swp];omega) (by omega) (by rw[size_swp];grind)
   refine⟨P,?_,y⟩
   rw[In.2.2.2.2.2.2.2.2.2.1,u,In.2.2.2.2.2.2.2.2.2.2.1,v,In.2.2.2.2.2.2.2.2.2.2.2.2.2.1]
   simp only[QY,In.2.2.2.2.2.2.2.2.2.2.2.2.2.2.2.2,H (BF (a:=f) (by omega)),H (KG (a:=g) (by omega) (by omega)), *]
variable{k:F}{n:G}
def tO{o:C WE}{h:Br WE}(u:SI o s k n h){g:D}(xi:a<=g)(xk:g<b)(xh:a+1<b)(xj:b<=h.z)(xl:h.z<80000000):∃r,W9 (Ar 198) [k,.n a,.n b,.n g,.f (Ar 42) []] n=A (.AC [.n (partition B4 h a b g).1,.b (partition B4 h a b g).2.1],r)/\SI o s k r (partition B4 h a b g).2.2:=by
 let⟨xd,xe,z,E,I,J,M,N,v⟩:=u.Lo (d:=a) (c:=g) (by omega) (by omega)
 unfold partition;simp only[];generalize X:swp h a g=d at*;have xq:d.z=h.z:=by rw[<-X,size_swp]
 let⟨xf,Y,w⟩:=up (o:=Ac) (q:=Ac) In.2.2.1 In.2.2.2.1 a (b-1) (λc=>B4 c d[a]!) (λ_=>B) (by omega) (by omega) (by omega) (b-1+1-(a+1)) (a+1) (C6 _) v (by omega)
 have xn:=scanUp_ge (λc=>B4 c d[a]!) d (b-1) (a+1);have xp:=(scanUp_spec (λc=>B4 c d[a]!) d (b-1) _ (a+1) B).2.1;let⟨T,Z,p⟩:=X_ (o:=L) (q:=Ac) In.2.2.2.2.2.1 In.2.2.2.2.2.2.1 a (scanUp (λc=>B4 c d[a]!) d (b-1) (a+1)) (λc=> !B4 c d[a]!) (λ_=>B) (by omega) (by omega) (by omega) (b-1) w (by omega)
 have xo:=scanDown_le (λc=> !B4 c d[a]!) d (scanUp (λc=>B4 c d[a]!) d (b-1) (a+1)) (b-1);generalize scanUp (λc=>B4 c _) _ _ _=e at*;generalize scanDown (λc=> !B4 c _) d e (b-1)=f at*;have t:∀{m:R},jj W9 198 11 [.n e,.n f,.f (Ar 42) [],.n a,k] T=m->xx W9 198 [k,.n a,.n b,.n g,.f (Ar 42) []] n=m:=λ{m} xg=>by rw[In.1];simp only[QY,z,E,I,J,M,N,BF (a:=a) (by omega),KG (a:=b) (by omega) (by omega),Y,In.2.1,Z];grind
 by_cases q:e>f
 .have y:f<(e:K):=by omega
  rw[Af q];let⟨U,V,xa,xb,xc,P,Q,S,l⟩:=p.Lo (d:=f) (c:=a) (by omega) (by omega)
  refine⟨V,Bd B B (t ?_),l⟩;rw[In.2.2.2.2.1];simp only[QY, *]
 .have y:¬f<(e:K):=by omega
  rw[Ad q];let⟨U,_,_,_,_,P,Q,S,l⟩:=p.Lo (d:=e) (c:=f) (by omega) (by omega)
  let⟨W,xm,x⟩:=j3 a (f-1+1-(e+1)) (e+1) (f-1) Om l (by omega) (by rw[size_swp];omega) (by rw[size_swp];omega) (by omega) (by rw[size_swp];omega)
  refine⟨W,Bd B B (t ?_),x⟩;rw[In.2.2.2.2.1];simp only[QY,In.2.2.2.2.2.2.2.1,H (BF (a:=e) (by omega)),H (KG (a:=f) (by omega) (by omega)), *]
def j2{m:C WE}{r:G}{l:F}(c:D):∀(h e d:D){k:G}{a:Br WE},d+1-e<=h->SI m r l k a->1<=e->c<a.z->d<a.z->e<90000000->a.z<90000000->∃q,jj W9 197 2 [.f (Ar 42) [],.n c,l,.n e,.n d] k=A (.n (partEqLoop B4 c e d a).1,q)/\SI m r l q (partEqLoop B4 c e d a).2
 |h,e,d,k,a,W,w,S,s,t,U,X=>by
  let⟨P,u,x⟩:=up (o:=L) (q:=L) Mu.2.2.2.2.1 Mu.2.2.2.2.2.1 c d (λb=> !B4 a[c]! b) (λ_=>B) s t (by omega) (d+1-e) e (C6 _) w (by omega)
  have Z:=scanUp_ge (λb=> !B4 a[c]! b) a d e;have xb:=(scanUp_spec (λb=> !B4 a[c]! b) a d _ e B).2.1;let⟨E,v,n⟩:=X_ (o:=Ac) (q:=L) Mu.2.2.2.2.2.2.2.1 Mu.2.2.2.2.2.2.2.2.1 c (scanUp (λb=> !B4 a[c]! b) a d e) (λb=>B4 a[c]! b) (λ_=>B) (by omega) s (by omega) d x t
  have xa:=scanDown_le (λb=>B4 a[c]! b) a (scanUp (λb=> !B4 a[c]! b) a d e) d;rw[partEqLoop_eq];generalize T:scanUp (λb=> !B4 a[c]! b) a d e=f at*;generalize V:scanDown (λb=>B4 a[c]! b) a f d=g at*;by_cases o:f>g
  .have p:g<(f:K):=by omega
   rw[Af o];refine⟨E,?_,n⟩;rw[Mu.2.2.1,u,Mu.2.2.2.1,v,Mu.2.2.2.2.2.2.1];simp only[↓Q,↓QT,p,Mu.2.1]
  .cases h with
   |zero=>omega
   |succ h=>
   have p:¬g<(f:K):=by omega
   rw[Ad o]
   let⟨R,_,_,_,_,J,M,N,y⟩:=n.Lo (d:=f) (c:=g) (by omega) (by omega)
   let⟨I,Y,z⟩:=j2 c h (f+1) (g-1) (by omega) y (by omega) (by rw[size_swp];grind) (by rw[size_swp];omega) (by omega) (by rw[size_swp];grind)
   refine⟨I,?_,z⟩
   rw[Mu.2.2.1,u,Mu.2.2.2.1,v,Mu.2.2.2.2.2.2.1]
   simp only[QY,Mu.2.2.2.2.2.2.2.2.2,H (BF (a:=f) (by omega)),H (KG (a:=g) (by omega) (by omega)), *]
def tN{f:C _}{k g:G}{e:F}{d:Br _}(l:SI f k e g d)(q:a<=c)(s:c<b)(r:b<=d.z)(t:d.z<80000000):∃h,W9 (Ar 197) [e,.n a,.n b,.n c,.f (Ar 42) []] g=A (.n (partitionEqual B4 d a b c).1,h)/\SI f k e h (partitionEqual B4 d a b c).2:=by
 let⟨p,_,_,_,_,_,_,_,m⟩:=l.Lo (d:=a) (c:=c) (by omega) (by omega)
 let⟨o,u,n⟩:=j2 a (b-1+1-(a+1)) (a+1) (b-1) Om m (by omega) (by rw[size_swp];omega) (by rw[size_swp];omega) (by omega) (by rw[size_swp];omega)
 refine⟨o,Bd B B ?_,n⟩;rw[Mu.1];simp only[QY,H (BF (a:=a) (by omega)),H (KG (a:=b) (by omega) (by omega)), *];rfl
def c9:C D:=[0,1,2,2,3,3,3,3,4,4,4,4,4,4,4,4,5,5,5,5,5,5,5,5,5,5,5,5,5,5,5,5,6,6,6,6,6,6,6,6,6,6,6,6,6,6,6,6,6,6,6,6,6,6,6,6,6,6,6,6,6,6,6,6,7,7,7,7,7,7,7,7,7,7,7,7,7,7,7,7,7,7,7,7,7,7,7,7,7,7,7,7,7,7,7,7,7,7,7,7,7,7,7,7,7,7,7,7,7,7,7,7,7,7,7,7,7,7,7,7,7,7,7,7,7,7,7,7,8,8,8,8,8,8,8,8,8,8,8,8,8,8,8,8,8,8,8,8,8,8,8,8,8,8,8,8,8,8,8,8,8,8,8,8,8,8,8,8,8,8,8,8,8,8,8,8,8,8,8,8,8,8,8,8,8,8,8,8,8,8,8,8,8,8,8,8,8,8,8,8,8,8,8,8,8,8,8,8,8,8,8,8,8,8,8,8,8,8,8,8,8,8,8,8,8,8,8,8,8,8,8,8,8,8,8,8,8,8,8,8,8,8,8,8,8,8,8,8,8,8,8,8,8,8,8,8]
def mJ(b:D):Ak:=match c9[b]?with
 |some a=>Co a 8&&(Co (2^a) (2*b)||(Bb b 0&&Bb a 0))
 |none=>Ac
def AeP:((List.range 256).all mJ)=L:=by kernel_rfl
def AeQ(d:a<256):∃b,c9[a]? =A b/\b<=8/\(2^b<=2*a\/(a=0/\b=0)):=by
 have:=AiP.1 AeP a P
 unfold mJ at this
 cases c:c9[a]?with
 |none=>grind
 |some b=>rw[c]at this;simp only[Aie,Ajt,Nat.ble_eq,Nat.beq_eq]at this;grind
def mj(c:a<=64):A7 .shr [.i .u64 b,.i .u64 a]=A (.i .u64 (b/2^a:D)):=by show A (F.i .u64 ((b:K).fdiv (2^(min a 64))))=_;grind
def q0(b:a<256):Hy .u8 [.i .u64 a]=A (.i .u8 a):=by show A (F.i .u8 (IW .u8 a))=_;rw[Ls];have:IntKind.u8.wrap a=a % 256:=B;grind
def bs{e:D}(g:d<256)(l:e<=16)(f:G):∃c,jj W9 200 1 [.n e,.i .u64 d] f=A (.n (e+c:D),f)/\c<=8/\(2^c<=2*d\/(d=0/\c=0)):=by
 let⟨c,h,i,j⟩:=AeQ g
 refine⟨c,?_,i,j⟩;rw[N_.2.2.2];simp only[↓H (q0 g),↓H (Yi h:HN [.s [0,1,2,2,3,3,3,3,4,4,4,4,4,4,4,4,5,5,5,5,5,5,5,5,5,5,5,5,5,5,5,5,6,6,6,6,6,6,6,6,6,6,6,6,6,6,6,6,6,6,6,6,6,6,6,6,6,6,6,6,6,6,6,6,7,7,7,7,7,7,7,7,7,7,7,7,7,7,7,7,7,7,7,7,7,7,7,7,7,7,7,7,7,7,7,7,7,7,7,7,7,7,7,7,7,7,7,7,7,7,7,7,7,7,7,7,7,7,7,7,7,7,7,7,7,7,7,7,8,8,8,8,8,8,8,8,8,8,8,8,8,8,8,8,8,8,8,8,8,8,8,8,8,8,8,8,8,8,8,8,8,8,8,8,8,8,8,8,8,8,8,8,8,8,8,8,8,8,8,8,8,8,8,8,8,8,8,8,8,8,8,8,8,8,8,8,8,8,8,8,8,8,8,8,8,8,8,8,8,8,8,8,8,8,8,8,8,8,8,8,8,8,8,8,8,8,8,8,8,8,8,8,8,8,8,8,8,8,8,8,8,8,8,8,8,8,8,8,8,8,8,8,8,8,8,8],.i .u8 d]=A (.i .u8 c)),↓H (X9 (d:=.u8) (a:=c) (by omega) (by omega)),↓H (Ng (a:=e) (b:=c) (by omega))]
def tP(v:a<1000000):∃c:D,c<=24/\(2^c<=2*a\/(a=0/\c=0))/\∀g,W9 (Ar 200) [.i .u64 (a:K)] g=A (.n (c:K),g):=by
 have t:∃c:D,c<=24/\(2^c<=2*a\/(a=0/\c=0))/\∃p,xx W9 200 [.i .u64 (a:K)] G.Az=A (.n (c:K),p):=by
  have n:¬(4294967296:K)<=(a:K):=by omega
  by_cases u:65536<=a
  .have i:(65536:K)<=(a:K):=by omega
   have f:=mj (b:=a) (a:=16) (by grind);have f:A7 .shr [.i .u64 (a:K),.i .u64 16]=A (.i .u64 ((a/65536:D):K)):=f;have o:¬(256:K)<=((a/65536:D):K):=by omega
   have l:A7 .add [.n 0,.n 16]=A (.n 16):=B;let⟨e,d,k,h⟩:=bs (e:=16) (d:=a/65536) (by omega) (by omega) G.Az
   have d:jj W9 200 1 [.n 16,.i .u64 ((a/65536:D):K)] G.Az=A (.n ((16+e:D):K),G.Az):=d;refine⟨16+e,by omega,?_,G.Az,?_⟩;.grind
   .rw[N_.1];simp only[QY,N_.2.1,N_.2.2.1, *]
  .have i:¬(65536:K)<=(a:K):=by omega
   by_cases o:256<=a
   .have j:(256:K)<=(a:K):=by omega
    have f:=mj (b:=a) (a:=8) (by grind);have f:A7 .shr [.i .u64 (a:K),.i .u64 8]=A (.i .u64 ((a/256:D):K)):=f;have l:A7 .add [.n 0,.n 8]=A (.n 8):=B;let⟨e,d,k,h⟩:=bs (e:=8) (d:=a/256) (by omega) (by omega) G.Az
    have d:jj W9 200 1 [.n 8,.i .u64 ((a/256:D):K)] G.Az=A (.n ((8+e:D):K),G.Az):=d;refine⟨8+e,by omega,?_,G.Az,?_⟩;.grind
    .rw[N_.1];simp only[QY,N_.2.1,N_.2.2.1, *]
   .have j:¬(256:K)<=(a:K):=by omega
    let⟨e,d,k,h⟩:=bs (e:=0) (d:=a) (by omega) (by omega) G.Az
    have d:jj W9 200 1 [.n 0,.i .u64 (a:K)] G.Az=A (.n ((0+e:D):K),G.Az):=d;rw[Aix]at d;refine⟨e,by omega,h,G.Az,?_⟩;rw[N_.1];simp only[↓Q,↓QT,Aic,n,N_.2.1,i,N_.2.2.1,j,d]
 let⟨c,q,r,s⟩:=t
 exact⟨c,q,r,λg=>(BP B B B s).at B g⟩
def ij(g:b<1000000):∃a:D,a<=24/\(2^a<=2*b\/(b=0/\a=0))/\∀c,W9 (Ar 154) [.i .u64 b] c=A (.n a,c):=by
 let⟨a,d,e,f⟩:=tP g
 exact⟨a,d,e,λc=>(BP B B B ⟨G.Az,by rw[jG.1];simp only[↓Q,jG.2,↓H (f G.Az)]⟩:A2 154 [.i .u64 b] (.n a)).at B c⟩
def ua(o:b<400000)(i:0<b):∃d:D,1<=d/\d<=2*b/\∀c,W9 (Ar 234) [.n b] c=A (.i .u64 d,c):=by
 let⟨a,j,l,m⟩:=ij (b:=b) (by omega)
 have e:2^a<=2*b:=by grind
 have h:=VB (d:=.n) (a:=b) (by omega) (by omega);have p:A7 .shl [.i .u64 1,.n a]=A (.i .u64 (2^a:D)):=by
  show A (F.i .u64 (IntKind.u64.wrap (1*2^(min a 64))))=_;rw[AjT (by omega)];have g:1*2^a=((2^a:D):K):=by grind
  rw[g];generalize 2^a=f at e;have:IntKind.u64.wrap f=f % 18446744073709551616:=B;grind
 exact⟨2^a,Nat.one_le_two_pow,e,λc=>(BP B B B ⟨G.Az,by rw[wv];grind⟩:A2 234 [.n b] (.i .u64 (2^a:D))).at B c⟩
structure QI(c:C WE)(d:G)(e:F)(a:Aa)(b:G)(f:Br WE)(h:F):Prop where
 I:SI c d e b f
 g:b.N a=A (.I 1 [h])
 lq:Lv b a
 nq:¬Lv d a
 au:AE e a
 ax:∀i∈c,AE i.1 a
def SI.fE{c:C _}{f b:G}{e:F}{d:Br _}(a:SI c f e b d):SI c b e b d:=⟨a.CC,a.sub,a.ro,a.AX,a.I6,P⟩
def SI.Vz{b:C _}{g f:G}{c:F}{k d:Br WE}(i:SI b g c e k)(a:SI b e c f d):SI b g c f d:=⟨a.CC,a.sub,a.ro,a.AX,a.I6,λh l=>by have j:=i.fr h l;have m:=a.fr h j.2;grind⟩
def SI.lvu{d:C _}{g a:G}{c:F}{f:Br _}(e:SI d g c a f){b:Aa}(h:¬AE c b):Lv a b:=e.CC.Dh h
def SI.lvx{d:C _}{m:F}{i:Br _}(g:SI d j m e i){c:WE}(l:c∈d){a:Aa}(f:¬AE c.1 a):Lv e a:=by
 rcases g.ro c l with⟨b,_⟩|⟨h,n,b,_,o⟩;.exact A_ (by rw[b];exact CM a) f
 .by_cases k:h=a;.grind
  .exact A_ (by rw[b];exact Fe k) f
def SI.ext{b:C _}{f d:G}{c:Br _}(a:SI b f g d c)(h:AR d e):SI b f g e c where
 CC:=a.CC.ext h
 sub:=a.sub
 ro:=λl j=>(a.ro l j).Av P
 AX:=a.AX
 I6:=a.I6
 fr:=λk i=>by have:=a.fr k i;grind
def SI.box{g:C _}{i c:G}{j:F}{h:Br _}(b:SI g i j e h)(l:AR e c){a:Aa}(m:c.N a=A (.I 1 [k]))(p:Lv c a)(f:¬Lv e a):QI g i j a c h k:=
 ⟨b.ext l,m,p,λo=>f (b.fr a o).2,Aih λd=>f (b.lvu d),λq n=>Aih λd=>f (b.lvx n d)⟩
def QI.C0{b:C WE}{h i:G}{d:F}{c:Aa}{l f:Br WE}(a:QI b j d c h l k)(e:SI b h d i f):QI b j d c i f k:=by have:=e.fr c a.lq;exact⟨a.I.Vz e,(this.1 ⟨a.au,a.ax⟩).t a.g,P,a.nq,a.au,a.ax⟩
def QI.set{k:C WE}{d:G}{p:F}{e:Aa}{l:Br WE}{u:F}(a:QI k n p e d l u){c:F}(s:c.I=[c])(r:FX c=L):∃m,A1 1 d [.p e 0,c]=A (Ax,m)/\QI k n p e m l c:=by
 refine⟨_,Xj a.g s r,?_⟩;have j:∀b,b≠e->(d.set e (.I 1 [c])).N b=d.N b:=λb f=>by rw[AY,Ad f]
 have t:∀b,Lv (d.set e (.I 1 [c])) b=Lv d b:=by grind
 refine⟨⟨a.I.CC.Av λb f i=>⟨j b (λh=>i (by rw[h];exact a.au)),by grind⟩,a.I.sub,λq o=>(a.I.ro q o).Av λb y v f i w=>⟨by rw[j b (λh=>i (by rw[h];exact a.ax q o))];grind,by grind⟩,a.I.AX,a.I.I6,λb f=> ?_⟩,by rw[AY,Af B],by rw[t];exact a.lq,a.nq,a.au,a.ax⟩;have:=a.I.fr b f;exact⟨λx=>(j b (λh=>a.nq (by grind))).t P,by grind⟩
def uc{i:C _}{q o:G}{r:F}{d:Aa}{n:Br _}{e:K}(j:QI i q r d o n (.i .u64 e)):∃s p,W9 (Ar 235) [.p d 0] o=A (.i .u64 s,p)/\QI i q r d p n (.i .u64 s):=by
 have I:=j.g;obtain⟨f,u⟩:∃f,A7 .shl [.i .u64 e,.i .u64 13]=A (.i .u64 f):=⟨_,B⟩;obtain⟨a,v⟩:∃a,A7 .xor [.i .u64 e,.i .u64 f]=A (.i .u64 a):=⟨_,B⟩;let⟨E,_,k⟩:=j.set (c:=.i .u64 a) B B
 have J:=k.g;obtain⟨g,w⟩:∃g,A7 .shr [.i .u64 a,.i .u64 7]=A (.i .u64 g):=⟨_,B⟩;obtain⟨b,x⟩:∃b,A7 .xor [.i .u64 a,.i .u64 g]=A (.i .u64 b):=⟨_,B⟩;let⟨H,_,l⟩:=k.set (c:=.i .u64 b) B B
 have M:=l.g;obtain⟨h,y⟩:∃h,A7 .shl [.i .u64 b,.i .u64 17]=A (.i .u64 h):=⟨_,B⟩;obtain⟨c,z⟩:∃c,A7 .xor [.i .u64 b,.i .u64 h]=A (.i .u64 c):=⟨_,B⟩;let⟨t,_,m⟩:=l.set (c:=.i .u64 c) B B
 have N:=m.g;refine⟨c,t,Bd B B ?_,m⟩;rw[ww];simp only[QY, *]
def nZ{b:K}(f:a<=1000000):∃c:D,A7 .and [.i .u64 b,.i .u64 a]=A (.i .u64 c)/\c<=a:=by
 have d:A7 .and [.i .u64 b,.i .u64 a]=A (.i .u64 (IntKind.u64.wrap (BitVec.ofInt 64 b&&&BitVec.ofInt 64 a).toNat)):=B;have e:(BitVec.ofInt 64 b&&&BitVec.ofInt 64 a).toNat<=a:=by rw[BitVec.toNat_and];refine AiN Nat.and_le_right ?_;grind
 refine⟨(BitVec.ofInt 64 b&&&BitVec.ofInt 64 a).toNat,?_,e⟩;rw[d];have:IntKind.u64.wrap (BitVec.ofInt 64 b&&&BitVec.ofInt 64 (a:K)).toNat=((BitVec.ofInt 64 b&&&BitVec.ofInt 64 a).toNat:K)% 18446744073709551616:=B;grind
def Wx(c:a<1000000000)(d:b<1000000000):A7 .mul [.n a,.n b]=A (.n (a*b:D)):=by rw[Ww _ _ (by unfold DO;omega) (by unfold DO;omega)];grind
def j1{y:C WE}{z:G}{v:F}{E:Aa}{c d g:D}(X:c+8<=d)(xa:1<=g)(xb:g<=2*(d-c)):∀(u e:D){w:G}{f:Br WE}{R:K},c+(d-c)/4*2+2-e<=u->c<=e->QI y z v E w f (.i .u64 R)->d<=f.z->f.z<200000->∃s r,jj W9 193 1 [.p E 0,.i .u64 g,.n (d-c:D),.n c,v,.n e] w=A (.AC [],s)/\SI y z v s r/\PermIn c d f r
 |u,e,w,f,R,xk,Y,I,Z,xm=>by
  have M:=WX (a:=d-c) (b:=4) (by omega) (by omega);have M:A7 .quo [.n (d-c:D),.n 4]=A (.n ((d-c)/4:D)):=M;have N:=Wx (a:=(d-c)/4) (b:=2) (by omega) (by omega);have N:A7 .mul [.n ((d-c)/4:D),.n 2]=A (.n ((d-c)/4*2:D)):=N;have xf:=Ng (a:=c) (b:=(d-c)/4*2) (by omega);have xg:=BF (a:=c+(d-c)/4*2) (by omega);by_cases xe:e<=c+(d-c)/4*2+1
  .cases u with
   |zero=>omega
   |succ u=>
   have T:(e:K)<=((c+(d-c)/4*2+1:D):K):=by omega
   let⟨xc,W,xo,J⟩:=uc I
   have xp:A7 .sub [.i .u64 (g:K),.i .u64 1]=A (.i .u64 ((g-1:D):K)):=by show A (F.i .u64 (IW .u64 (R9 (g:K) 1)))=_;rw[(V2 _ _:R9 (g:K) 1=(g:K)-1),ne (by omega) (by omega)];grind
   let⟨h,xd,xn⟩:=nZ (b:=xc) (a:=g-1) (by omega)
   have xx:=X9 (d:=.u64) (a:=(h:K)) (by omega) (by omega)
   have Q:∀(o:D),o<d-c->∃s r,jj W9 193 3 [.n (o:K),.n (e:K),.p E 0,.i .u64 (g:K),.n ((d-c:D):K),.n (c:K),v] W=A (.AC [],s)/\SI y z v s r/\PermIn c d f r:=by
    intro o xl;have xh:=Ng (a:=c) (b:=o) (by omega);let⟨xi,xj,xr,xs,xt,xu,xv,xw,S⟩:=J.I.fE.Lo (d:=e) (c:=c+o) (by omega) (by omega)
    let⟨t,l,P,p,q⟩:=j1 X xa xb u (e+1) (by omega) (by omega) (J.C0 S) (by rw[size_swp];grind) (by rw[size_swp];grind)
    refine⟨t,l,?_,p,permIn_trans f _ l c d (swp_permIn f c d e (c+o) Y (by omega) (by omega) (by omega) Z) q⟩;rw[Qt.2.2.2.2];simp only[QY,Qt.2.2.2.1,H (BF (a:=e) (by omega)), *]
   by_cases U:h>=d-c
   .have V:((d-c:D):K)<=(h:K):=by omega
    have xq:=Nc (a:=h) (b:=d-c) U (by omega);let⟨t,l,P,p,q⟩:=Q (h-(d-c)) (by omega)
    refine⟨t,l,?_,p,q⟩;rw[Qt.2.1];simp only[QY,Qt.2.2.1, *]
   .have V:¬((d-c:D):K)<=(h:K):=by omega
    let⟨t,l,P,p,q⟩:=Q h (by omega)
    refine⟨t,l,?_,p,q⟩;rw[Qt.2.1];simp only[QY,Qt.2.2.1, *]
  .have T:¬e<=((c+(d-c)/4*2+1:D):K):=by omega
   refine⟨w,f,?_,I.I,permIn_refl f c d⟩;rw[Qt.2.1];simp only[QY, *]
def tJ{h:C WE}{p:G}{f:Br WE}(t:SI h p g e f)(E:c+8<=d)(I:d<=f.z)(Q:f.z<200000):∃o i,W9 (Ar 193) [g,.n (c:K),.n (d:K),.f (Ar 42) []] e=A (.AC [],o)/\SI h p g o i/\PermIn c d f i:=by
 have xa:=Nc (a:=d) (b:=c) (by omega) (by omega);have V:(8:K)<=((d-c:D):K):=by omega
 have xb:=VB (d:=.n) (a:=((d-c:D):K)) (by omega) (by omega);let⟨U,q,P,J,s,y,S,T⟩:=box e (.I 1 [.i .u64 ((d-c:D):K)])
 let⟨xc,r⟩:=F0 e (b:=1) [(.i .u64 0)] (c:=[.i .u64 ((d-c:D):K)]) P J B B
 have r:A1 1 (e.V (.I 1 [.i .u64 0])) [.p U 0,.i .u64 ((d-c:D):K)]=A (Ax,q):=by rw[eB B]at r;grind
 let⟨Z,M,N,R⟩:=ua (b:=d-c) (by omega) (by omega)
 have l:=WX (a:=d-c) (b:=4) (by omega) (by omega);have l:A7 .quo [.n ((d-c:D):K),.n 4]=A (.n (((d-c)/4:D):K)):=l;have m:=Wx (a:=(d-c)/4) (b:=2) (by omega) (by omega);have m:A7 .mul [.n (((d-c)/4:D):K),.n 2]=A (.n (((d-c)/4*2:D):K)):=m;have W:=Ng (a:=c) (b:=(d-c)/4*2) (by omega);have X:=KG (a:=c+(d-c)/4*2) (by omega) (by omega);let⟨z,w,Y,u,v⟩:=j1 (c:=c) (d:=d) E M N (c+(d-c)/4*2+2-(c+(d-c)/4*2-1)) (c+(d-c)/4*2-1) (C6 _) (by omega) (t.box s y S T) I Q
 refine⟨z,w,Bd B B ?_,u,v⟩;rw[Qt.1];simp only[QY,H (R q), *]
variable{h:F}
def cj{l:C _}{o m:G}{g:Aa}{c:Br WE}(e:QI l o h g m c (.n d))(y:d<1000)(p:a<c.z)(q:b<c.z):∃(j k r:D)(n:G),W9 (Ar 244) [h,.n a,.n b,.p g 0,.f (Ar 42) []] m=A (.AC [.n j,.n k],n)/\((j=a/\k=b)\/(j=b/\k=a))/\r<=d+1/\QI l o h g n c (.n r):=by
 let⟨z,I⟩:=e.I.rd q
 let⟨E,J⟩:=e.I.rd p
 let⟨w,u,s⟩:=e.I.fE.N0 q p
 rw[K8]at u;have f:=e.C0 s;by_cases v:GL c[b]!.2 c[a]!.2<0
 .have M:=f.g;let⟨x,_,t⟩:=f.set (c:=.n (d+1:D)) B B
  refine⟨b,a,_,_,Bd B B ?_,Om,Om,t⟩;rw[c1.1];simp only[QY,K8,H (BF (a:=d) (by omega)), *]
 .refine⟨a,b,d,_,Bd B B ?_,Om,by omega,f⟩;rw[c1.1];simp only[QY,K8,c1.2, *]
def iq{k:C WE}{l:G}{f:Aa}{a:Br WE}{g:D}(p:QI k n h f l a (.n g))(Q:g<900){e:D}(u:d<a.z)(v:e<a.z)(w:b<a.z):∃(c o:D)(m:G),W9 (Ar 237) [h,.n d,.n e,.n b,.p f 0,.f (Ar 42) []] l=A (.n c,m)/\(c=d\/c=e\/c=b)/\o<=g+3/\QI k n h f m a (.n o):=by
 let⟨y,E,X,N,R,I,U,q⟩:=cj p (by omega) u v
 let⟨z,xa,Y,P,S,J,V,r⟩:=cj q (by omega) (a:=E) (b:=b) (by grind) w
 let⟨Z,H,x,t,T,M,W,s⟩:=cj r (by omega) (a:=y) (b:=z) (by grind) (by grind)
 refine⟨H,x,t,Bd B B ?_,by omega,by omega,s⟩;rw[wy];simp only[QY, *]
def ci{l:C _}{m:G}{f:Aa}{c:Br WE}{g:D}(o:QI l n h f m c (.n g))(s:g<900)(q:1<=a)(r:a+1<c.z)(v:c.z<200000):∃(b e:D)(d:G),W9 (Ar 236) [h,.n a,.p f 0,.f (Ar 42) []] m=A (.n b,d)/\(a-1<=b/\b<=a+1)/\e<=g+3/\QI l n h f d c (.n e):=by
 let⟨b,e,d,w,u,t,p⟩:=iq o s (d:=a-1) (e:=a) (b:=a+1) (by omega) (by omega) r
 refine⟨b,e,d,Bd B B ?_,by omega,t,p⟩;rw[wx];simp only[QY,H (KG (a:=a) (by omega) q),H (BF (a:=a) (by omega)), *]
def u7{e:C _}{h a:G}{j:F}{d:Aa}{g:Br _}(f:QI e h j d a g (.n b))(c:F):∃i:K,jj W9 194 1 [.p d 0,c] a=A (.AC [c,.n i],a):=by
 have m:=f.g;by_cases k:(b:K)=0;.refine⟨1,?_⟩;rw[Uk.2.1];simp only[QY, *]
 .by_cases l:(b:K)=12;.refine⟨2,?_⟩;rw[Uk.2.1];simp only[QY,Int.reduceEq, *]
  .refine⟨0,?_⟩;rw[Uk.2.1];simp only[QY, *]
def tK{q:C WE}{p:G}{l:F}{g:Br WE}(S:SI q s l p g)(xo:c+8<=d)(xp:d<=g.z)(v:g.z<200000):∃(e:D)(f:K)(r:G),W9 (Ar 194) [l,.n c,.n d,.f (Ar 42) []] p=A (.AC [.n e,.n f],r)/\c<=e/\e<d/\SI q s l r g:=by
 have xH:=Nc (a:=d) (b:=c) (by omega) (by omega);let⟨t,N,xb,xa,Q,Y,xd,xe⟩:=box p (.I 1 [.n 0])
 have xO:∀(I:F->G->R),bl (.p p.next 0) (p.V (.I 1 [.n 0])) I=I (.p t 0) N:=Em p (.I 1 [.n 0]) xb xa;have J:QI q s l t N g (.n (0:D)):=S.box Q Y xd xe;have xk:A7 .quo [.n (d-c:D),.n 4]=A (.n ((d-c)/4:D)):=WX (a:=d-c) (b:=4) (by omega) (by omega);have xD:A7 .mul [.n ((d-c)/4:D),.n 1]=A (.n (((d-c)/4*1:D):K)):=Wx (a:=(d-c)/4) (b:=1) (by omega) (by omega);have xE:A7 .mul [.n (((d-c)/4:D):K),.n 2]=A (.n (((d-c)/4*2:D):K)):=Wx (a:=(d-c)/4) (b:=2) (by omega) (by omega);have xF:A7 .mul [.n (((d-c)/4:D):K),.n 3]=A (.n (((d-c)/4*3:D):K)):=Wx (a:=(d-c)/4) (b:=3) (by omega) (by omega);have xf:=Ng (a:=c) (b:=(d-c)/4*1) (by omega);have xg:=Ng (a:=c) (b:=(d-c)/4*2) (by omega);have xh:=Ng (a:=c) (b:=(d-c)/4*3) (by omega);have xj:(8:K)<=((d-c:D):K):=by omega
 have P:∀{H m n o:D}{h:G},QI q s l t h g (.n (H:K))->H<100->(c<=m/\m<d)->(c<=n/\n<d)->(c<=o/\o<d)->∃(e:D)(f:K)(r:G),jj W9 194 2 [l,.n (m:K),.n (n:K),.n (o:K),.f (Ar 42) [],.p t 0] h=A (.AC [.n (e:K),.n f],r)/\c<=e/\e<d/\SI q s l r g:=by
  intro H m n o h W xr xs xt xu;let⟨e,xG,Z,xy,xq,_,M⟩:=iq W (by omega) (d:=m) (e:=n) (b:=o) (by omega) (by omega) (by omega)
  let⟨f,xz⟩:=u7 M (.n (e:K))
  refine⟨e,f,Z,?_,by omega,by omega,M.I⟩;rw[Uk.2.2];grind
 by_cases xi:50<=d-c
 .have X:(50:K)<=((d-c:D):K):=by omega
  let⟨m,xI,xl,xv,xA,xL,T⟩:=ci J (by omega) (a:=c+(d-c)/4*1) (by omega) (by omega) v
  let⟨n,xJ,xm,xw,xB,xM,U⟩:=ci T (by omega) (a:=c+(d-c)/4*2) (by omega) (by omega) v
  let⟨o,xK,xn,xx,xC,xN,V⟩:=ci U (by omega) (a:=c+(d-c)/4*3) (by omega) (by omega) v
  let⟨e,f,h,xc,w,E,u⟩:=P V (m:=m) (n:=n) (o:=o) (by omega) (by omega) (by omega) (by omega)
  refine⟨e,f,h,Bd B B ?_,w,E,u⟩;rw[Uk.1];simp only[QY, *]
 .have X:¬(50:K)<=((d-c:D):K):=by omega
  let⟨e,f,h,xc,w,E,u⟩:=P J (m:=c+(d-c)/4*1) (n:=c+(d-c)/4*2) (o:=c+(d-c)/4*3) (by omega) (by omega) (by omega) (by omega)
  refine⟨e,f,h,Bd B B ?_,w,E,u⟩;rw[Uk.1];simp only[QY, *]
def P5(e:C WE)(g:G)(i:F)(b c:D)(f:Br WE)(h:R):Prop:=∃d a,h=A (.AC [],d)/\SI e g i d a/\PermIn b c f a/\SortedIn B4 b c a
def P5.dZ{e:C WE}{g:G}{i:F}{c d:Br WE}{h:R}(l:P5 e g i a b d h)(n:PermIn a b c d):P5 e g i a b c h:=by
 let⟨m,f,k,j,o,p⟩:=l
 exact⟨m,f,k,j,permIn_trans c d f a b n o,p⟩
def Wo(N:SWO B4){t:C WE}{u:G}{h:F}:∀(I c d:D)(E:D)(n m:Ak){xf:G}{o:Br WE},d-c<=I->SI t u h xf o->c<=d->d<=o.z->o.z<200000->E<1000->Below B4 c d o->P5 t u h c d o (jj W9 153 1 [.b n,.b m,.n (c:K),h,.n (d:K),.n (E:K),.f (Ar 42) []] xf)
 |I,c,d,E,n,m,xf,o,yx,xm,xh,X,yh,yf,xO=>by
  have yn:=Nc (a:=d) (b:=c) xh (by omega)
  by_cases ys:d-c<=12
  .have xJ:((d-c:D):K)<=12:=by omega
   let⟨xp,xB,Z⟩:=tH xm xh X (by omega)
   have ye:=insertionSort_holds N o c d xh X;refine⟨xp,_,?_,Z,P,P⟩;rw[Ja.2.1];simp only[QY, *]
  cases I with
  |zero=>omega
  |succ I=>
  have xJ:¬((d-c:D):K)<=12:=by omega
  by_cases yt:E=0
  .have xN:(E:K)=0:=by omega
   let⟨xp,xB,Z⟩:=tI xm (c:=c) (d:=d) (by omega) X (by omega)
   have ye:=heapSort_holds N o c d xh X;refine⟨xp,_,?_,Z,P,P⟩;rw[Ja.2.1];simp only[QY,yn,xJ,Ja.2.2.1,xN,xB]
  have xN:¬(E:K)=0:=by omega
  have yw:DW [.b L]=A (.b Ac):=B
  have yv:DW [.b Ac]=A (.b L):=B
  have xT:∀{l:G}{f:Br WE}{g e:D},SI t u h l f->f.z=o.z->g<1000->c<=e->e<d->Below B4 c d f->P5 t u h c d f (jj W9 153 2 [.n (e:K),.n ((d-c:D):K),.n (d:K),.n (c:K),h,.n (g:K),.f (Ar 42) []] l):=by
   intro l f g e w R r y z s
   let⟨T,U,q⟩:=tO w y z (by omega) (by omega) (by omega)
   cases xi:partition B4 f c d e with
   |mk k ym=>
   cases ym with
   |mk xH x6=>
   rw[xi]at U q
   simp only[]at U q
   let⟨xq,xR,xG,xZ,x1,yb,yc⟩:=round_part N (partition_holds B4) y z (by omega) s xi
   have xX:=Nc (a:=k) (b:=c) xq (by omega)
   have yp:=Nc (a:=d) (b:=k) (by omega) (by omega)
   have yq:A7 .quo [.n ((d-c:D):K),.n 8]=A (.n (((d-c)/8:D):K)):=WX (a:=d-c) (b:=8) (by omega) (by omega)
   have xM:∀{S J:D}{xg:G}{M:Br WE},J-S<=I->SI t u h xg M->S<=J->J<=M.z->M.z<200000->Below B4 S J M->∃W x,W9 (Ar 153) [h,.n (S:K),.n (J:K),.n (g:K),.f (Ar 42) []] xg=A (.AC [],W)/\SI t u h W x/\PermIn S J M x/\SortedIn B4 S J x:=by
    intro S J xg M x7 xs x8 x9 ya xY;let⟨W,x,xQ,xb,V,xl⟩:=Wo N I S J g L L x7 xs x8 x9 ya r xY
    exact⟨W,x,Bd B B (by rw[Ja.1];grind),xb,V,xl⟩
   by_cases yu:k-c<d-k
   .have x4:((k-c:D):K)<((d-k:D):K):=by omega
    let⟨W,x,xQ,xb,V,xl⟩:=xM (S:=c) (J:=k) (by omega) q xq (by omega) (by omega) xZ
    let⟨xr,xe⟩:=yb x V xl
    have yr:x.z=o.z:=by rw[V.1,xG,R]
    let⟨xz,xd,yj,xt,xE,xF⟩:=Wo N I (k+1) d g (Au (((d-c)/8:D)<=k-c)) xH (by omega) xb (by omega) (by omega) (by omega) r xr
    let⟨xj,xk⟩:=xe xd xE xF
    refine⟨xz,xd,?_,xt,xj,xk⟩;have xx:Au ((((d-c)/8:D):K)<=((k-c:D):K))=Au (((d-c)/8:D)<=k-c):=by grind
    have xy:=K7 .n ((k-c:D):K) (((d-c)/8:D):K);rw[xx]at xy;rw[Ja.2.2.2.2.2.2.2];simp only[QY,H (BF (a:=k) (by omega)), *]
   .have x4:¬((k-c:D):K)<((d-k:D):K):=by omega
    let⟨W,x,xQ,xb,V,xl⟩:=xM (S:=k+1) (J:=d) (by omega) q (by omega) (by omega) (by omega) x1
    let⟨xr,xe⟩:=yc x V xl
    have yr:x.z=o.z:=by rw[V.1,xG,R]
    let⟨xz,xd,yj,xt,xE,xF⟩:=Wo N I c k g (Au (((d-c)/8:D)<=d-k)) xH (by omega) xb xq (by omega) (by omega) r xr
    let⟨xj,xk⟩:=xe xd xE xF
    refine⟨xz,xd,?_,xt,xj,xk⟩;have xx:Au ((((d-c)/8:D):K)<=((d-k:D):K))=Au (((d-c)/8:D)<=d-k):=by grind
    have xy:=K7 .n ((d-k:D):K) (((d-c)/8:D):K);rw[xx]at xy;rw[Ja.2.2.2.2.2.2.2];simp only[QY,H (BF (a:=k) (by omega)), *]
  have xU:∀{l:G}{f:Br WE}{g e:D},SI t u h l f->f.z=o.z->g<1000->c<=e->e<d->Below B4 c d f->P5 t u h c d f (jj W9 153 3 [.b n,.b m,.n (e:K),.n ((d-c:D):K),.n (d:K),.n (c:K),h,.n (g:K),.f (Ar 42) []] l):=by
   intro l f g e w R r y z s;by_cases xL:0<c
   .have xw:(0:K)<(c:K):=by omega
    have x5:=KG (a:=c) (by omega) xL;let⟨yy,yA⟩:=w.rd (a:=c-1) (by omega)
    let⟨yz,yB⟩:=w.rd (a:=e) (by omega)
    let⟨T,U,q⟩:=w.N0 (k:=c-1) (l:=e) (by omega) (by omega)
    by_cases xc:GL f[c-1]!.2 f[e]!.2<0
    .have v:=xT q R r y z s;have:jj W9 153 3 [.b n,.b m,.n (e:K),.n ((d-c:D):K),.n (d:K),.n (c:K),h,.n (g:K),.f (Ar 42) []] l=jj W9 153 2 [.n (e:K),.n ((d-c:D):K),.n (d:K),.n (c:K),h,.n (g:K),.f (Ar 42) []] T:=by rw[Ja.2.2.2.2.2.2.1];simp only[Q,QT,Z8,xc,ZR, *]
     grind
    .let⟨yd,xC,xa⟩:=tN q y z (by omega) (by omega)
     cases xi:partitionEqual B4 f c d e with
     |mk k x6=>
     rw[xi]at xC xa
     simp only[]at xC xa
     have yg:B4 f[c-1]! f[e]! =Ac:=by rw[Jf,Ba xc]
     let⟨xq,xR,xG,x0,xe⟩:=round_eq N (partitionEqual_holds B4) xL y z (by omega) s yg xi
     let⟨xg,M,yi,xs,yl,yo⟩:=Wo N I k d g n m (by omega) xa xR (by omega) (by omega) r x0
     let⟨xj,xk⟩:=xe M yl yo
     refine⟨xg,M,?_,xs,xj,xk⟩
     rw[Ja.2.2.2.2.2.2.1]
     simp only[Q,QT,Aic,xw,Z8,xc,yi,ZR, *]
   .have xw:¬(0:K)<(c:K):=by omega
    have v:=xT w R r y z s;have:jj W9 153 3 [.b n,.b m,.n (e:K),.n ((d-c:D):K),.n (d:K),.n (c:K),h,.n (g:K),.f (Ar 42) []] l=jj W9 153 2 [.n (e:K),.n ((d-c:D):K),.n (d:K),.n (c:K),h,.n (g:K),.f (Ar 42) []] l:=by rw[Ja.2.2.2.2.2.2.1];simp only[↓Q,↓QT,Aic,xw]
    rw[this];grind
  have xV:∀{l:G}{f:Br WE}{g e:D}(Y:K),SI t u h l f->f.z=o.z->g<1000->c<=e->e<d->Below B4 c d f->P5 t u h c d f (jj W9 153 4 [.n Y,.b n,.b m,.n (e:K),.n ((d-c:D):K),.n (d:K),.n (c:K),h,.n (g:K),.f (Ar 42) []] l):=by
   intro l f g e Y w R r y z s;by_cases xc:n=L/\m=L/\Y=1
   .let⟨xI,xK,xo⟩:=xc
    let⟨T,U,q⟩:=tM w (a:=c) (b:=d) (by omega) (by omega) (by omega)
    let⟨xn,x2⟩:=partialInsertionSort_holds N f c d (by omega) (by omega) s
    cases xA:(partialInsertionSort B4 f c d).2 with
    |true=>rw[xA]at U;refine⟨T,_,?_,q,xn,x2 xA⟩;rw[Ja.2.2.2.2.2.1,xI,xK,xo];simp only[QY, *]
    |false=>
     rw[xA]at U;have v:=xU q (by rw[xn.1];grind) r y z (s.perm (by omega) xn);have:jj W9 153 4 [.n Y,.b n,.b m,.n (e:K),.n ((d-c:D):K),.n (d:K),.n (c:K),h,.n (g:K),.f (Ar 42) []] l=jj W9 153 3 [.b n,.b m,.n (e:K),.n ((d-c:D):K),.n (d:K),.n (c:K),h,.n (g:K),.f (Ar 42) []] T:=by rw[Ja.2.2.2.2.2.1,xI,xK,xo];simp only[QY, *]
     rw[this];exact v.dZ xn
   .have v:=xU w R r y z s;have:jj W9 153 4 [.n Y,.b n,.b m,.n (e:K),.n ((d-c:D):K),.n (d:K),.n (c:K),h,.n (g:K),.f (Ar 42) []] l=jj W9 153 3 [.b n,.b m,.n (e:K),.n ((d-c:D):K),.n (d:K),.n (c:K),h,.n (g:K),.f (Ar 42) []] l:=by
     rw[Ja.2.2.2.2.2.1]
     cases n with
     |false=>simp only[↓Q]
     |true=>
      cases m with
      |false=>simp only[↓Q]
      |true=>
       have xo:¬Y=1:=by grind
       simp only[↓Q,↓QT,Aic,xo]
    rw[this];grind
  have xW:∀{l:G}{f:Br WE}{g:D},SI t u h l f->f.z=o.z->g<1000->Below B4 c d f->P5 t u h c d f (jj W9 153 5 [.b n,.b m,.n ((d-c:D):K),.n (d:K),.n (c:K),h,.n (g:K),.f (Ar 42) []] l):=by
   intro l f g w R r s;let⟨e,xD,T,U,xS,yk,q⟩:=tK w (c:=c) (d:=d) (by omega) (by omega) (by omega)
   by_cases x3:xD=2
   .subst x3;let⟨yd,xC,xa⟩:=tL q (b:=c) (a:=d) (by omega) (by omega) (by omega)
    have xv:=reverseRange_holds f c d xh (by omega);have xX:=KG (a:=d) (by omega) (by omega);have yp:=Nc (a:=e) (b:=c) xS (by omega);have yq:=Nc (a:=d-1) (b:=e-c) (by omega) (by omega);have v:=xV (e:=d-1-(e-c)) 1 xa (by rw[xv.1];grind) r (by omega) (by omega) (s.perm (by omega) xv);rw[Ja.2.2.2.2.1];simp only[QY, *];exact v.dZ xv
   .have v:=xV (e:=e) xD q R r xS yk s;have:jj W9 153 5 [.b n,.b m,.n ((d-c:D):K),.n (d:K),.n (c:K),h,.n (g:K),.f (Ar 42) []] l=jj W9 153 4 [.n xD,.b n,.b m,.n (e:K),.n ((d-c:D):K),.n (d:K),.n (c:K),h,.n (g:K),.f (Ar 42) []] T:=by rw[Ja.2.2.2.2.1];simp only[QY, *]
    rw[this];grind
  rw[Ja.2.1]
  simp only[QY,Ja.2.2.1, *]
  cases xP:n with
  |true=>
   have v:=xW xm B yf xO;rw[xP]at v;have:jj W9 153 6 [.b L,.b m,.n ((d-c:D):K),.n (d:K),.n (c:K),h,.n (E:K),.f (Ar 42) []] xf=jj W9 153 5 [.b L,.b m,.n ((d-c:D):K),.n (d:K),.n (c:K),h,.n (E:K),.f (Ar 42) []] xf:=by rw[Ja.2.2.2.1];simp only[QY, *]
   rw[this];grind
  |false=>
   let⟨xp,x5,xB,Z,xu⟩:=tJ xm (c:=c) (d:=d) (by omega) X yh
   have xX:=KG (a:=E) (by omega) (by omega);have v:=xW (g:=E-1) Z xu.1 (by omega) (xO.perm X xu);rw[xP]at v;rw[Ja.2.2.2.1];simp only[QY, *];exact v.dZ xu
def sZ(p:SWO B4){e:C WE}{h b:G}{c:F}{a:Br WE}(f:SI e h c b a)(q:a.z<200000):∃g d,W9 (Ar 104) [c,.f (Ar 42) []] b=A (.AC [],g)/\SI e h c g d/\PermIn 0 a.z a d/\SortedIn B4 0 a.z d:=by
 have s:=C4 f.CC;rw[Ajf]at s;have w:=VB (d:=.n) (a:=a.z) (by omega) (by omega);let⟨l,_,_,r⟩:=ij (b:=a.z) (by omega)
 let⟨i,o,j,m,t,u⟩:=Wo p a.z 0 a.z l L L (by omega) f (by omega) (C6 _) q (by omega) (.i B)
 have j:=j;have v:W9 (Ar 153) [c,.n 0,.n a.z,.n l,.f (Ar 42) []] b=A (.AC [],i):=Bd B B (by rw[Ja.1];grind);refine⟨i,o,Bd B B ?_,m,t,u⟩;rw[vD];simp only[QY,H (r b), *]
structure OP{e:Type}(c:e->e->K):Prop where
 Ni:∀a b,c b a= -c a b
 zero:∀a b,c a b=0->a=b
 AQ:∀a b d,c a b<0->c b d<0->c a d<0
def OP.Ad1{b:Type}{c:b->b->K}(d:OP c)(a:b):c a a=0:=by have:=d.Ni a a;omega
def dS:OP IG where
 Ni:=λb c=>by unfold IG;split<;>split<;>omega
 zero:=λb c a=>by
  unfold IG at a;split at a;.omega
  .grind
 AQ:=λb c f d e=>by
  unfold IG at*;split at d;.grind
  .grind
def kY{p l m:Type}{n:l->l->K}{o:m->m->K}(f:OP n)(k:OP o)(c:p->l)(d:p->m)(q:∀a b,c a=c b->d a=d b->a=b):OP λa b=>Ji (n (c a) (c b)) (o (d a) (d b))where
 Ni:=λa b=>by unfold Ji;have s:=f.Ni (c a) (c b);have t:=k.Ni (d a) (d b);split<;>split<;>omega
 zero:=λa b i=>by
  unfold Ji at i;split at i;.omega
  .rename_i e;exact q a b (f.zero _ _ (Aih e)) (k.zero _ _ i)
 AQ:=λa b u e g=>by
  unfold Ji at*;split at e
  .split at g;.have:=f.AQ _ _ _ e g;rw[Af (by omega)];grind
   .rename_i j;have h:=f.zero _ _ (Aih j);rw[<-h,Af (by omega)];grind
  .rename_i j;have h:=f.zero _ _ (Aih j);rw[h];split at g;.grind
   .rename_i r;rw[Ad r];exact k.AQ _ _ _ e g
def WN:OP Mc:=kY dS dS _ Bc.As λa b c d=>by cases a;cases b;simp_all
def Ab1:OP GK where
 Ni:=λb=>by
  induction b with
  |nil=>intro a;cases a<;>rfl
  |cons i b j=>
   intro a
   cases a with
   |nil=>rfl
   |cons e a=>have c:=WN.Ni i e;have:=j a;unfold GK;split<;>split<;>omega
 zero:=λb=>by
  induction b with
  |nil=>intro a c;cases a;rfl;cases c
  |cons i b j=>
   intro a c
   cases a with
   |nil=>cases c
   |cons e a=>
    unfold GK at c;split at c;.omega
    .rename_i g;rw[WN.zero i e (Aih g),j a c]
 AQ:=λb=>by
  induction b with
  |nil=>
   intro a h f d
   cases h with
   |nil=>cases a with
    |nil=>grind
    |cons e a=>unfold GK at d;omega
   |cons l h=>unfold GK;omega
  |cons i b j=>
   intro a h f d
   cases a with
   |nil=>unfold GK at f;omega
   |cons e a=>
    cases h with
    |nil=>unfold GK at d;omega
    |cons l h=>
     unfold GK at f d⊢;split at f
     .split at d;.have:=WN.AQ _ _ _ f d;rw[Af (by omega)];grind
      .rename_i g;have k:=WN.zero _ _ (Aih g);rw[<-k,Af (by omega)];grind
     .rename_i g;have k:=WN.zero _ _ (Aih g);rw[k];split at d;.grind
      .grind
def M7:OP GL:=kY Ab1 dS _ Cc.Ao λa b c d=>by cases a;cases b;simp_all
def AeO:SWO B4 where
 irrefl:=λf=>by rw[Jf,M7.Ad1];decide
 trans:=λf b c a d=>by rw[Jf,Ain]at*;exact M7.AQ _ _ _ a d
 ntrans:=λf b c a d=>by
  rw[Jf,Aj9]at*;intro e;have h:=M7.Ni b.2 c.2;by_cases g:GL b.2 c.2=0;.rw[<-M7.zero _ _ g]at e;grind
  .exact a (M7.AQ _ _ _ e (by omega))
def QG(a b:Cc):Ak:=Au (GL a b<=0)
def mr{c d:C _}(g:c.Pairwise λa b=>GL a b<=0)(h:d.Pairwise λa b=>GL a b<=0)(i:c.Perm d):c=d:=
 List.Perm.eq_of_pairwise (le:=λa b=>GL a b<=0) (λe f _ _ j k=>M7.zero e f (by have:=M7.Ni e f;omega)) g h i
def Xf(a:C Cc):C Cc:=a.mergeSort QG
def wZ(b a c:Cc)(f:QG b a=L)(g:QG a c=L):QG b c=L:=by
 unfold QG at*;rw[Ain]at*;by_cases d:GL b a=0;.rw[M7.zero _ _ d];grind
 .by_cases e:GL a c=0;.rw[<-M7.zero _ _ e];grind
  .exact Int.le_of_lt (M7.AQ b a c (by omega) (by omega))
def wY(a b:Cc):(QG a b||QG b a)=L:=by unfold QG;have:=M7.Ni a b;rw[Ajt,Ain,Ain];omega
def ez(a:C _):(Xf a).Pairwise λc d=>GL c d<=0:=(List.pairwise_mergeSort wZ wY a).imp λ{e f} b=>AjP b
def Xg(a:C _):(Xf a).Perm a:=List.mergeSort_perm a _
end Go.Proofs.YtmnfpdedgnfeiaaGreat
namespace Go.Proofs.YtmnfpdedgnfeiaaGreat
open Go.Fg
def MW(a:Ah):D->D->C Bc
 |0,_=>[]
 |c+1,b=>if(a.at b).AN= -1 then[]else⟨(a.at b).Ao,(a.at b).As⟩::MW a c (a.at b).AN.n
def G6(b:Ah)(a:D):C Bc:=(MW b (a+1) a).reverse
theorem T7(a:Ah)(c b:D):MW a (c+1) b=if(a.at b).AN= -1 then[]else⟨(a.at b).Ao,(a.at b).As⟩::MW a c (a.at b).AN.n:=rfl
def YX(b:Ah):∀(a c:D),(MW b a c).l<=a
 |0,_=>C6 _
 |a+1,c=>by
  unfold MW;split;.grind
  .have:=YX b a (b.at c).AN.n;grind
def j8{g:CW}{W:Aa->Bz}{e:G}{d:Ah}{z:Ly}(r:EU W e g.l g.es g.k g.x d z)(I:Dk g.l d):∀(c b:D),b<c->∀(a:AP),d.T[b]? =A a->∀(i:C Bc)(n:F)(j:G),AR e j->AF j n Bc.c 2 i->EV e n->i.l+c<=100000->∃o k,jj W9 54 2 [.p g.x 0,.p (z.pc b) 0,n] j=jj W9 54 1 [o] k/\AF k o Bc.c 2 (i++MW d c b)/\AR e k/\EV e o
 |0,b,T,_,_,_,_,_,_,_,_,_=>by omega
 |c+1,b,T,a,l,i,n,j,E,U,p,xa=>by
  have xi:=((r.ext E).Bw b a l).N;by_cases t:a.AN= -1
  .refine⟨n,j,?_,?_,E,p⟩;.rw[Uo.2.2.1];simp only[QY, *]
   .have:MW d (c+1) b=[]:=by rw[T7,DM l,Af t]
    rw[this,Aiy];grind
  .let⟨v,xc,Q,X,xg,h⟩:=(I.up b a l).resolve_left t
   have Z:BE [(.n 0),(.n 0)] [(0,1),(1,1)] [.n a.Ao,.n a.As]=A (.S (Bc.c ⟨a.Ao,a.As⟩)):=B;let⟨J,u,xe,V,M,R⟩:=GS (f:=Bc.c) (w:=2) (b:=⟨a.Ao,a.As⟩) (o:=.S (Bc.c ⟨a.Ao,a.As⟩)) (h:=16) (λ_=>B) B B U (EI (by omega))
   have H:AR e u:=λm q=>⟨(M.N P (p m q)).t P,M.lv P (p m q)⟩;have s:=r.ext H;have xl:=s.N;have xk:u.AA (z.pc b) 1=A (.n v):=by rw[AJ (s.Bw b a l).N];show A (F.n a.AN)=_;rw[h.AN]
   let⟨Y,xb,xj⟩:=s.Lk h.Cp
   have xf:=h.lt;let⟨o,k,xd,xh,N,S⟩:=j8 r I c v (by omega) Q h.Cp (i++[⟨a.Ao,a.As⟩]) J u H V (λm q=>R m P (p m q):EV e J) (by grind)
   refine⟨o,k,?_,?_,N,S⟩;.rw[Uo.2.2.1];simp only[QY,Uo.2.2.2.1,Uo.2.2.2.2, *]
   .have:MW d (c+1) b=⟨a.Ao,a.As⟩::MW d c v:=by rw[T7,DM l,Ad t,h.AN,Aif]
    grind
def Acd{q:Type}{c:q->C F}{a:D}(e:∀d,(c d).l=a)(S:∀d,Ct (c d)=L){k:G}{b:F}{l:C q}(p:AF k b c a l){f g:D}{d i:q}(o:l[f]? =A d)(t:l[g]? =A i):
  ∃s m,AZ a [b,.n f]=A (.p (ub b) (f*a))/\AZ a [b,.n g]=A (.p (ub b) (g*a))/\k.AU (ub b) (f*a) a=A (c d)/\k.AU (ub b) (g*a) a=A (c i)/\
   A1 a k [.p (ub b) (f*a),.S (c i)]=A (Ax,s)/\A1 a s [.p (ub b) (g*a),.S (c d)]=A (Ax,m)/\AF m b c a ((l.set f i).set g d)/\(∀h,AE b h->m.N h=k.N h)/\∀h,Lv m h=Lv k h:=by
 let⟨R,j⟩:=Dm e p o
 let⟨w,n⟩:=Dm e p t
 have I:=j.only w n.nb
 subst I
 let⟨E,v⟩:=j.set e p o (c:=i) (g:=.S (c i)) B P
 have M:g<(l.set f i).l:=by grind
 let⟨U,u⟩:=Bo M
 let⟨x,r⟩:=Dm e v u
 have J:=j.only x r.nb
 subst J
 let⟨H,N⟩:=r.set e v u (c:=d) (g:=.S (c d)) B P
 have Q:=j.nb
 rw[eT Q]
 exact⟨_,_,j.ia,n.ia,j.AU e o,n.AU e t,E,H,N,λh T=>by rw[AY,Ad P,AY,Ad P],P⟩
structure Rv{e:Type}(b c:C e)(d:D):Prop where
 AX:c.l=b.l
 Cp:∀a,a<b.l->c[a]? =b[if a<d\/b.l-d<=a then b.l-1-a else a]?
def Rv.zero{b:Type}(a:C b):Rv a a 0:=⟨B,P⟩
def Rv.C0{k:Type}{b c:C _}{a:D}(d:Rv b c a)(n:a<b.l-1-a){f g:k}(o:c[a]? =A f)(p:c[b.l-1-a]? =A g):Rv b ((c.set a g).set (b.l-1-a) f) (a+1)where
 AX:=by rw[Aiv,Aiv];exact d.AX
 Cp:=λe h=>by
  have i:=d.Cp a (by omega);have j:=d.Cp (b.l-1-a) (by omega);rw[Ad (by omega)]at i j;by_cases l:e=b.l-1-a;.grind
  .rw[AiU Om];by_cases m:e=a;.grind
   .rw[AiU Om,d.Cp e h];grind
def Rv.TQ{g:Type}{a c:C g}{b:D}(d:Rv a c b)(h:¬b<a.l-1-b)(i:b<=a.l):c=a.reverse:=by
 refine Ajc λf=> ?_;by_cases e:f<a.l;.rw[d.Cp f e,List.getElem?_reverse e];grind
 .rw[Aji (by rw[d.AX];omega),Aji (by grind)]
def j0{g:G}{k:F}{b:C Bc}(E:b.l<1000000):∀(h a:D)(e:C Bc)(d:G),b.l-2*a<=h->2*a<=b.l+1->Rv b e a->AF d k Bc.c 2 e->(∀c,AE k c->d.N c=g.N c)->(∀c,Lv d c=Lv g c)->∃n,jj W9 92 1 [k,.n a,.n (b.l-1-a)] d=A (.AC [],n)/\AF n k Bc.c 2 b.reverse/\(∀c,AE k c->n.N c=g.N c)/\∀c,Lv n c=Lv g c
 |h,a,e,d,xb,xa,m,M,v,I=>by
  by_cases p:a<b.l-1-a
  .cases h with
   |zero=>omega
   |succ h=>
   have o:(a:K)<(b.l:K)-1-a:=by omega
   have u:(b.l:K)-1-a=((b.l-1-a:D):K):=by omega
   let⟨xe,q⟩:=Bo (b:=e) (a:=a) (by rw[m.AX];omega)
   let⟨xf,r⟩:=Bo (b:=e) (a:=b.l-1-a) (by rw[m.AX];omega)
   let⟨Z,y,S,T,U,V,W,X,N,Y,xd⟩:=Acd (c:=Bc.c) (a:=2) (λ_=>B) (λ_=>B) M q r
   have s:=KG (a:=b.l-1-a) (by omega) (by omega)
   have t:((b.l-1-a-1:D):K)=(b.l:K)-1-((a+1:D):K):=by omega
   rw[t]at s
   let⟨z,xc,R,x,J⟩:=j0 (g:=g) E h (a+1) _ y (by omega) (by omega) (m.C0 p q r) N P P
   refine⟨z,?_,R,x,J⟩
   rw[u]at o⊢
   rw[Wf.2.1]
   simp only[QY,Wf.2.2.1,Wf.2.2.2,H (BF (a:=a) (by omega)), *]
  .have o:¬a<(b.l:K)-1-a:=by omega
   refine⟨d,?_,by rw[<-m.TQ p (by omega)];grind,v,I⟩;rw[Wf.2.1];simp only[↓Q,↓QT,Aic,o]
def sX{d:G}{g:F}{c:C Bc}(h:AF d g Bc.c 2 c)(k:c.l<1000000):∃f,W9 (Ar 92) [g] d=A (.AC [],f)/\AF f g Bc.c 2 c.reverse/\(∀e,AE g e->f.N e=d.N e)/\∀e,Lv f e=Lv d e:=by
 have p:=C4 h;have n:=Gu (a:=c.l) (b:=1) (by omega) (by omega);let⟨j,o,m,i,l⟩:=j0 (g:=d) k c.l 0 c d (by omega) (by omega) (Rv.zero c) h P P
 refine⟨j,Bd B B ?_,m,i,l⟩;rw[Wf.1];grind
def cr{c:CW}{r:Aa->Bz}{a:G}{d:Ah}{s:Ly}(g:EU r a c.l c.es c.k c.x d s)(j:Dk c.l d){b:D}{k:AP}(i:d.T[b]? =A k):∃e h,W9 (Ar 54) [.p c.x 0,.n b] a=A (e,h)/\AF h e Bc.c 2 (G6 d b)/\AR a h/\EV a e:=by
 have F:=g.N;let⟨u,_,_⟩:=g.Lk i
 have w:=(Aid.1 i).1;have v:=j.AX;let⟨e,_,y,m,t,l⟩:=j8 g j (b+1) b (by omega) k i [] .sn a (AR.refl a) (AF.sn a) (λf _=>CM f) (by grind)
 rw[Akv]at m;have x:=YX d (b+1) b;let⟨o,z,q,n,E⟩:=sX m (by omega)
 refine⟨e,o,Bd B B ?_,q,λf p=>⟨(n f (l f p)).t P,by grind⟩,l⟩;rw[Uo.1];simp only[QY,Uo.2.1, *]
