/- Part of the proof. -/
import Derived.Test.YtbmnfifnenajjaaGreatMaz
set_option linter.all false
noncomputable section
open Option renaming some->A,none->O,getD->Option.g,bind->Option.b
open _root_ renaming rfl->B,List->C,Nat->D,Int->K,if_neg->Ad,if_pos->Af,Option->Ae,Bool->Ah,cond->Aj,decide_eq_true->A0,decide_eq_false->A2
open Bool renaming true->L,false->Aa
open Decidable renaming decide->Ao
open Nat renaming le_refl->CK
open List renaming length->List.l,map->List.m,take->List.t,drop->List.d,toArray->List.a,flatMap->List.f
open Go.IntKind renaming i64->Go.IntKind.n
open Array renaming toList->Array.l
open Eq renaming trans->Eq.t,symm->Eq.s
open Or renaming inl->Or.i
open Int renaming toNat->Int.n
namespace Go.Proofs.YtbmnfifnenajjaaGreat
open Go.Fg
def DV:C (BN×F)->BN->Ae F
 |[],_=>O
 |(b,d)::c,a=>if b=a then A d else DV c a
def GU(c:C Bx)(d:C (BN×F)):Prop:=c.m (λa=>(a.He,a.Eo))=d.m λb=>(F.s b.1,b.2)
def nM(a b:BN):Jr Aa [2] (.s a) (.s b)=A (D2 a b):=by show JO (A (D2 a b)) (A L)=_;cases D2 a b<;>rfl
def ZV:∀{e:C Bx}{f:C (BN×F)},GU e f->∀(a:BN)(c:D),(DV f a=O->Gs Aa [2] (.s a) e c=A O)/\∀g,DV f a=A g->∃n b,Gs Aa [2] (.s a) e c=A (A (n,b))/\b.Eo=g
 |[],[],_,a,c=>⟨λ_=>rfl,λg d=>by cases d⟩
 |[],_::_,d,_,_=>by cases d
 |_::_,[],d,_,_=>by cases d
 |b::e,(h,g)::f,d,a,c=>by
  have j:b.He=.s h/\b.Eo=g:=by have:=(AfW d).1;exact⟨AdW Prod.fst this,AdW Prod.snd this⟩
  have l:GU e f:=(AfW d).2;have o:=ZV l a (c+1);have p:Gs Aa [2] (.s a) (b::e) c=Aj (D2 a h) (A (A (c,b))) (Gs Aa [2] (.s a) e (c+1)):=by show@Option.casesOn Ah (λ_=>Ae (Ae (D×Bx))) (Jr Aa [2] (.s a) b.He) O (λk=>Aj k (A (A (c,b))) (Gs Aa [2] (.s a) e (c+1)))=_;rw[j.1,nM]
  rw[p,MY];unfold DV;by_cases i:h=a;.subst i;rw[Af B,Afq];exact⟨λd=>(by cases d),λq m=>⟨c,b,B,by rw[j.2];exact Aew m⟩⟩
  .rw[Ad i];have:(a==h)=Aa:=by simpa usingλb=>i b.s
   rw[this];exact o
def WN{d:Ah}{e i:F}{g:G}{c:C Bx}{b:C (BN×F)}(l:O_ g i=A c)(m:GU c b)(a:BN):EP Aa [2] e d g [i,.s a]=A (Aj d (.AB [(DV b a).g e,.b (DV b a).isSome]) ((DV b a).g e)):=by
 have f:=ZV m a 0
 have n:Lw Aa [2] (.s a) c=Gs Aa [2] (.s a) c 0:=B
 unfold EP
 simp only[l,n]
 cases h:DV b a with
 |none=>rw[f.1 h];cases d<;>rfl
 |some o=>obtain⟨q,p,j,k⟩:=f.2 o h;rw[j];simp only[k];cases d<;>rfl
def eD{d:G}{e:T}{b:C Bx}{c:D}{f:C (BN×F)}(i:d.M e=A (.Bn b c))(j:GU b f){a:BN}(k:DV f a=O)(g:F):G_ Aa [2] d [.m e,.s a,g]=A (AC,d.set e (.Bn (b++[⟨.s a,g,c⟩]) (c+1))):=by have h:=ZV j a 0;have l:Lw Aa [2] (.s a) b=Gs Aa [2] (.s a) b 0:=B;unfold G_;simp only[i,ba,l,h.1 k]
variable{a:C Bx}
def GU.VS{d:C (BN×F)}(b:GU a d)(c:BN)(e:F)(f:D):GU (a++[⟨.s c,e,f⟩]) (d++[(c,e)]):=by unfold GU at b⊢;rw[Aes,Aes,b];rfl
def eK:∀(a:C (BN×F)),GU (Qj (a.m λb=>.s b.1) (a.m (·.2))) a
 |[]=>rfl
 |(d,e)::c=>by unfold GU Qj;simp only[AeC];exact AdW _ (eK c)
def GU.rW{a:C _}{b:C (BN×F)}(c:GU a b):a.m (·.He)=b.m λd=>.s d.1:=by simpa[AeF,Function.comp_def]using(AdW (List.map Prod.fst) c)
def GU.CQ{b:C (BN×F)}(c:GU a b):a.m (·.Eo)=b.m (·.2):=by simpa[AeF,Function.comp_def]using(AdW (List.map Prod.snd) c)
def Jw(a:C (BN×F)):F:=.mi (a.m λb=>.s b.1) (a.m (·.2))
def oM{b:G}{d:T}{e:D}{f:C (BN×F)}(c:D)(l:b.M d=A (.Bn a e))(g:GU a f)(m:(f.m (·.2)).all Im=L):Df (c+2) b (.m d)=A (Jw f,b.set d (.rm a e)):=by
 show(match HQ (b.M d)with
  |some (a,e)=>match CT (Df (c+1)) b (a.m Bx.He)with
   |some (o,i)=>match CT (Df (c+1)) i (a.m Bx.Eo)with
    |some (p,j)=>A (F.mi o p,j.set d (.rm a e))
    |none=>O
   |none=>O
  |none=>O)=_
 rw[l];simp only[t8];have k:(f.m λh=>F.s h.1).all Im=L:=by rw[Aei];intro q n;obtain⟨h,_,rfl⟩:=Aeu.1 n;rfl
 rw[g.rW,N6 c b k];simp only[];rw[g.CQ,N6 c b m];rfl
def DH(a:C Ab)(b:C (BN×F)):C F:=[Z Ab.c a,Jw b]
def oU{a:G}{g e:T}{b:C Ab}{i:C Bx}{j:D}{d:C (BN×F)}(n:a.M g=A (.I 2 [Z Ab.c b,.m e]))(o:a.M e=A (.Bn i j))(l:GU i d)(p:(d.m (·.2)).all Im=L):∃c,Dp a (.p g 0)=A (.pi (DH b d),c):=by
 refine⟨(a.set e (.rm i j)).set g (.rc 2 [Z Ab.c b,.m e]),?_⟩;show(match DR (a.M g)with
  |some (d,b)=>match CT (Df 39) a b with
   |some (q,c)=>A (F.pi (q.d 0),c.set g (.rc d b))
   |none=>O
  |none=>O)=_
 rw[n];simp only[mX];have r:CT (Df 39) a [Z Ab.c b,.m e]=A (DH b d,a.set e (.rm i j)):=by
  show(match Df 39 a (Z Ab.c b)with
   |none=>O
   |some (k,c)=>match CT (Df 39) c [F.m e]with
    |none=>O
    |some (h,f)=>A (k::h,f))=_
  rw[(UA 38 a B:Df 39 a (Z Ab.c b)=A (Z Ab.c b,a))];show(match(match Df _ a _ with
   |none=>O
   |some (k,c)=>match CT (Df 39) c []with
    |none=>O
    |some (h,f)=>A (k::h,f))with
    |none=>O
    |some (h,f)=>A (Z Ab.c b::h,f))=_
  rw[(oM (f:=d) 37 o l p)];rfl
 grind
def Nu:C Ab->D->C (BN×F)->C (BN×F)
 |[],_,a=>a
 |b::d,c,a=>Nu d (c+1) (if(DV a b.A8).isSome=L then a else a++[(b.A8,.n (c:K))])
def CM(a:C Ab):C (BN×F):=Nu a 0 []
def lP(j:C Ab){g:D}{a:Ab}(q:j[g]? =A a)(h b:T)(w:h≠b)(c:G)(e:C Bx)(f:D)(k:C (BN×F))(v:c.M h=A (.I 2 [Z Ab.c j,.m b]))(x:c.M b=A (.Bn e f))(l:GU e k)(y:Lv c h)(E:Lv c b)(r:F):
  ∃i p s,jj W9 134 4 [.n g,r,Z Ab.c j,.p h 0] c=jj W9 134 3 [.n g,r,Z Ab.c j,.p h 0] i/\i.M h=A (.I 2 [Z Ab.c j,.m b])/\i.M b=A (.Bn p s)/\
   GU p (if(DV k a.A8).isSome=L then k else k++[(a.A8,.n g)])/\Lv i h/\Lv i b:=by
 have m:=(I6 y (.I 5 (Ab.c a))).t v
 have n:=(I6 E (.I 5 (Ab.c a))).t x
 have u:O_ (c.V (.I 5 (Ab.c a))) (.m b)=A e:=by show(match HQ ((c.V (.I 5 (Ab.c a))).M b)with|some (e,_)=>A e|none=>O)=_;rw[n];rfl
 have d:=WN (d:=L) (e:=.n 0) u l a.A8
 cases o:DV k a.A8 with
 |some H=>rw[o]at d;have d:EP Aa [2] (.n 0) L (c.V (.I 5 (Ab.c a))) [.m b,.s a.A8]=A (.AB [H,.b L]):=d;refine⟨c.V (.I 5 (Ab.c a)),e,f,?_,m,n,l,P,P⟩;rw[QM.2.2.2.1];simp only[QY,CB q,m,d]
 |none=>
  rw[o]at d;have d:EP Aa [2] (.n 0) L (c.V (.I 5 (Ab.c a))) [.m b,.s a.A8]=A (.AB [.n 0,.b Aa]):=d;have t:=eD n l o (.n g);refine⟨(c.V (.I 5 (Ab.c a))).set b (.Bn (e++[⟨.s a.A8,.n g,f⟩]) (f+1)),e++[⟨.s a.A8,.n g,f⟩],f+1,?_,?_,?_,l.VS _ _ f,?_,?_⟩;.rw[QM.2.2.2.1];simp only[QY,CB q,m,d,t]
  .rw[AN,Ad w];grind
  .rw[AN,Af B]
  .grind
  .grind
def tD(a:C Ab)(xa:a.l<1000000000)(d e:T)(G:d≠e):∀j b c f g h,a.l-b=j->b<=a.l->c.M d=A (.I 2 [Z Ab.c a,.m e])->c.M e=A (.Bn f g)->GU f h->Lv c d->Lv c e->∃k p s,jj W9 134 2 [.n a.l,Z Ab.c a,.n (b:K),.p d 0] c=A (.p d 0,k)/\k.M d=A (.I 2 [Z Ab.c a,.m e])/\k.M e=A (.Bn p s)/\GU p (Nu (a.d b) b h):=by
 intro j
 induction j with
 |zero=>
  intro b c f g h E F n o m q r;have v:¬(b:K)<a.l:=by omega
  refine⟨c,f,g,?_,n,o,?_⟩;.rw[QM.2.2.1];simp only[↓Q,↓QC,v,↓reduceIte];rw[QM.2.1]
  .rw[Ad1 (by omega)];exact m
 |succ j M=>
  intro b c f g h E F n o m q r;let⟨xc,I,J⟩:=Ds (b:=a) (a:=b) (by omega)
  let⟨y,w,t,S,U,V,W,X,Y⟩:=lP a I d e G c f g h n o m q r (.n (a.l:K))
  let⟨z,x,u,xb,N,P,R⟩:=M (b+1) y w t _ (by omega) (by omega) U V W X Y
  refine⟨z,x,u,?_,N,P,?_⟩;.rw[QM.2.2.1];simp only[↓Q,↓QC,Om,↓reduceIte];rw[S,QM.2.2.2.2];simp only[↓Q,↓H (Bh (a:=b) (by omega))];grind
  .rw[J];exact R
def ir:∀(d:C _)(c:D)(b:C _),(b.m (·.2)).all Im=L->((Nu d c b).m (·.2)).all Im=L
 |[],_,_,a=>a
 |f::e,c,b,a=>by
  refine ir e _ _ ?_;split;.grind
  .rw[Aes,AeG,a];rfl
def fL(a:C Ab)(l:a.l<1000000000):AY 134 [Z Ab.c a] (.pi (DH a (CM a))):=by
 have j:∀(c:G)(b:T),Cb [.sn,.mn] [(0,1),(1,1)] [Z Ab.c a,.m b]=A (.S [Z Ab.c a,.m b]):=λ_ _=>B;let⟨i,_,_,m,f,g,d⟩:=tD a l (.o .h) .h (by grind) a.l 0 ((G.Aq.V (.Bn [] 0)).V (.I 2 [Z Ab.c a,.m .h])) [] 0 [] (by omega) (by omega) B B B (E9 _ _) ((E9 _ _).V _)
 rw[Ad7]at d;let⟨n,h⟩:=oU f g d (ir a 0 [] B)
 refine EV B B (c:=i) (e:=.p (.o .h) 0) ?_ h;have k:∀(c:G)(b:T)(e:F->G->R),bl (.p c.next 0) (c.V (.I (Bq (F.I (.S [Z Ab.c a,.m b]))) (F.I (.S [Z Ab.c a,.m b])))) e=e (.p c.next 0) (c.V (.I 2 [Z Ab.c a,.m b])):=λ_ _ _=>B;have p:(G.Aq.V (.Bn [] 0)).next=.o .h:=B
 have o:G.Aq.next=.h:=B;rw[QM.1];simp only[↓Q,↓H (j G.Aq _),↓k];grind
def R5:∀(h:C _)(c a:BN)(d:F),DV (h++[(c,d)]) a=match DV h a with|some b=>A b|none=>if c=a then A d else O
 |[],c,a,d=>rfl
 |(e,b)::f,c,a,d=>by
  show(if e=a then A b else DV (f++[(c,d)]) a)=match(if e=a then A b else DV f a)with|some b=>A b|none=>_
  by_cases g:e=a;.grind
  .rw[Ad g,Ad g,R5 f]
theorem W0(b:BN)(c:Ab)(d:C _)(a:D):ID b (c::d) a=if c.A8=b then(a:K)else ID b d (a+1):=rfl
def dm:∀(d:C _)(c:D)(b:C (BN×F))(a:BN),DV (Nu d c b) a=match DV b a with|some e=>A e|none=>if 0<=ID a d c then A (.i .n (ID a d c))else O
 |[],c,b,a=>by
  show DV b a=_
  cases DV b a with
  |some e=>rfl
  |none=>show O=if(0:K)<=-1 then _ else _;rw[Ad (by grind)]
 |f::i,c,b,a=>by
  unfold Nu;rw[dm i (c+1)];rw[W0];by_cases h:(DV b f.A8).isSome=L;.grind
  .rw[Ad h,R5]
   cases j:DV b a with
   |some e=>rfl
   |none=>
    by_cases g:f.A8=a;.rw[Af g,Af g];show A _=if 0<=(c:K)then _ else _;rw[Af (by omega)]
    .grind
def Wm(b:C _)(a:BN):DV (CM b) a=if 0<=CH b a then A (.i .n (CH b a))else O:=dm b 0 [] a
def ac(a:Ab):AY 190 [.S (Ab.c a)] (.b (Ao (0<a.A_.l))):=Bu B B B ⟨G.Aq.V (.I 5 (Ab.c a)),by
 have b:=Ew .n a.A_.l 0;have c:Ao ((0:K)<a.A_.l)=Ao (0<a.A_.l):=by grind
 rw[c]at b;rw[sn];simp only[QY, *]⟩
def Le(d:K)(c:C K)(a:D):F:=.S [.i .n d,.CV (c.m λb=>[.i .u8 b]),.f (pos a) []]
def LQ:C (BN×F):=[([97,100,100],Le 2 [1] 231),([115,117,98],Le 2 [1] 233),([109,117,108],Le 2 [1] 234),([100,105,118],Le 2 [1] 235),([109,111,100],Le 2 [1] 238),([110,101,103],Le 1 [1] 240),([108,116],Le 2 [1] 241),([108,101],Le 2 [1] 243),([101,113],Le 2 [1,2] 244),([110,111,116],Le 1 [2] 245)]
def ma:((xx W9 197 [] G.Aq).b λa=>(Dp a.2 a.1).map Prod.fst)=A (Jw LQ):=by rw[sp];kernel_rfl
def fW:AY 197 [] (Jw LQ):=by
 have a:=ma
 cases b:xx _ _ _ _ with
 |none=>rw[b]at a;cases a
 |some d=>
  rw[b]at a
  let⟨g,_⟩:=d
  have a:(Dp _ _).map _=A _:=a
  cases c:Dp _ _ with
  |none=>rw[c]at a;cases a
  |some e=>
   let⟨f,_⟩:=e
   rw[c]at a;cases a
   exact EV B B b c
theorem nH(b:G)(a:C (BN×F)):O_ b (Jw a)=A (Qj (a.m λc=>.s c.1) (a.m (·.2))):=rfl
def Td(e:Ah)(c:F)(d:G)(a:C (BN×F))(b:BN):EP Aa [2] c e d [Jw a,.s b]=A (Aj e (.AB [(DV a b).g c,.b (DV a b).isSome]) ((DV a b).g c)):=WN (nH d a) (eK a) b
def bJ(b:BN):K:=match DV LQ b with|some (.S (.i .n a::_))=>a|_=>0
def uV(b:BN):bJ b=Du b:=by
 unfold bJ Du LQ To;simp only[DV,Ad6,Ae2,Ae3];by_cases c:b=[97,100,100];.subst c;rfl
 by_cases e:b=[115,117,98];.subst e;rfl
 by_cases f:b=[109,117,108];.subst f;rfl
 by_cases g:b=[100,105,118];.subst g;rfl
 by_cases h:b=[109,111,100];.subst h;rfl
 by_cases i:b=[110,101,103];.subst i;rfl
 by_cases j:b=[108,116];.subst j;rfl
 by_cases k:b=[108,101];.subst k;rfl
 by_cases l:b=[101,113];.subst l;rfl
 by_cases d:b=[110,111,116];.subst d;rfl
 rw[Ad (λa=>c a.s),Ad (λa=>e a.s),Ad (λa=>f a.s),Ad (λa=>g a.s),Ad (λa=>h a.s),Ad (λa=>i a.s),Ad (λa=>j a.s),Ad (λa=>k a.s),Ad (λa=>l a.s),Ad (λa=>d a.s),Ad (by grind)]
def dl:∀{d:C _}{a:BN}{c:F},DV d a=A c->(a,c)∈d
 |(f,h)::g,a,c,b=>by
  unfold DV at b;by_cases e:f=a;.grind
  .rw[Ad e]at b;exact Aez _ (dl b)
def uX{f:BN}{b:F}(a:DV LQ f=A b):∃e d c,b=Le e d c:=by have a:=dl a;simp only[LQ,Ad6,Ae2,Ae3,AfM]at a;rcases a with⟨_,rfl⟩|⟨_,rfl⟩|⟨_,rfl⟩|⟨_,rfl⟩|⟨_,rfl⟩|⟨_,rfl⟩|⟨_,rfl⟩|⟨_,rfl⟩|⟨_,rfl⟩|⟨_,rfl⟩<;>grind
def qu(a:BN):AY 257 [.s a] (.n (Du a)):=Bu B B B ⟨G.Aq,by
 have c:=Td Aa (.S [.n 0,.sn,.fn]) G.Aq LQ a;have d:CX 0 [(DV LQ a).g (.S [.n 0,.sn,.fn])]=A (.n (Du a)):=by
  rw[<-uV]
  unfold bJ
  cases b:DV LQ a with
  |none=>rfl
  |some h=>obtain⟨g,f,e,rfl⟩:=uX b;rfl
 rw[sV];simp only[QY,fW.H B,Bool.cond_false, *]⟩
def BP(a b c d:K)(e:Ah):C F:=[.n a,.n b,.n c,.n d,.b e]
def VV{b:G}{c:C F}{d:D}{a:F}(f:d+1<=5)(g:a.I=[a])(e:Fl a=L):AX 1 (b.V (.I 5 c)) [.p b.next d,a]=A (AC,b.V (.I 5 (Dg d [a] c))):=by
 show Aj _ _ O=_;rw[g];have:BU [a]=L:=by show Aj _ _ Aa=L;rw[e];rfl
 rw[this,Ki (a:=5) (i:=c) (by rw[HM];rfl),Af f,Ad (by grind)];show A (AC,(b.V (.I 5 c)).set b.next _)=_;rw[VN]
def QW:(∀{i:Type}(d:G)(b c f g h:K)(e:Ah)(a:F×G->Ae i),(AX 1 (d.V (.I 5 (BP b c f g e))) [.p d.next 0,.n h]).b a=a (AC,d.V (.I 5 (BP h c f g e))))/\
 (∀{i:Type}(d:G)(b c f g h:K)(e:Ah)(a:F×G->Ae i),(AX 1 (d.V (.I 5 (BP b c f g e))) [.p d.next 1,.n h]).b a=a (AC,d.V (.I 5 (BP b h f g e))))/\
 (∀{i:Type}(d:G)(b c f g h:K)(e:Ah)(a:F×G->Ae i),(AX 1 (d.V (.I 5 (BP b c f g e))) [.p d.next 2,.n h]).b a=a (AC,d.V (.I 5 (BP b c h g e))))/\
 (∀{i:Type}(d:G)(b c f g h:K)(e:Ah)(a:F×G->Ae i),(AX 1 (d.V (.I 5 (BP b c f g e))) [.p d.next 3,.n h]).b a=a (AC,d.V (.I 5 (BP b c f h e))))/\
 (∀{i:Type}(d:G)(b c f g:K)(e h:Ah)(a:F×G->Ae i),(AX 1 (d.V (.I 5 (BP b c f g e))) [.p d.next 4,.b h]).b a=a (AC,d.V (.I 5 (BP b c f g h))))/\
 (∀{i:Type}(d:G)(j:C F)(b c f g:K)(e:Ah)(a:F×G->Ae i),(AX 5 (d.V (.I 5 j)) [.p d.next 0,.S (BP b c f g e)]).b a=a (AC,d.V (.I 5 (BP b c f g e))))/\
 (∀{i:Type}(b c f g:K)(e:Ah)(a:F->Ae i),((BP b c f g e)[0]?).b a=a (.n b))/\
 (∀{i:Type}(b c:K)(a:F->Ae i),(Cb [(.n 0),(.n 0),(.n 0),(.n 0),(.b Aa)] [(0,1),(1,1)] [(.n b),(.n c)]).b a=a (.S (BP b c 0 0 Aa)))/\
 (∀{i:Type}(b c:K)(e:Ah)(a:F->Ae i),(Cb [(.n 0),(.n 0),(.n 0),(.n 0),(.b Aa)] [(0,1),(1,1),(4,1)] [(.n b),(.n c),(.b e)]).b a=a (.S (BP b c 0 0 e))):=
 ⟨λd b c f g h e a=>H (VV (by grind) B B) a,λd b c f g h e a=>H (VV (by grind) B B) a,λd b c f g h e a=>H (VV (by grind) B B) a,λd b c f g h e a=>H (VV (by grind) B B) a,λd b c f g e h a=>H (VV (by grind) B B) a,λd j b c f g e a=>H (ET B B) a,λ_ _ _ _ _ _=>B,λ_ _ _=>B,λ_ _ _ _=>B⟩
def Sl(f:G)(a b c d:K)(e:Ah):jj W9 224 1 [.p f.next 0] (f.V (.I 5 (BP a b c d e)))=A (.AB [.S (BP a b c d e),.b L],f.V (.I 5 (BP a b c d e))):=by rw[Oo.2.1];simp only[↓Q,↓QW]
def IQ(b:C Ab)(c:Au):C F×Ah:=match b[(CH b c.A8).n]?with
 |some a=>if 0<=CH b c.A8/\(Ao (0<a.A_.l)=Ao (c.op=9))then(BP a.An a.Bk.l 0 0 L,L)else(BP 1 1 0 0 Aa,Aa)
 |none=>(BP 1 1 0 0 Aa,Aa)
theorem bQ(b:G)(a:C Ab)(c:C (BN×F)):AM b [.pi ((DH a c).d 0)]=A (Z Ab.c a):=rfl
theorem X1(b:G)(c:C Ab)(a:C (BN×F)):AM b [.pi ((DH c a).d 1)]=A (Jw a):=rfl
theorem vd(a:C _)(b:C _):((DH a b).d 0)[0]? =A (Z Ab.c a):=rfl
def mN(c:C Ab)(a:Au)(q:c.l<1000000000)(e:G):
  jj W9 224 4 [.b L,.p e.next 0,.pi (DH c (CM c)),.i .u8 a.op,.p (e.V (.I 4 (Au.c a))).next 0] ((e.V (.I 4 (Au.c a))).V (.I 5 (BP 1 1 0 0 Aa)))=
   A (.AB [.S (IQ c a).1,.b (IQ c a).2],(e.V (.I 4 (Au.c a))).V (.I 5 (IQ c a).1)):=by
 generalize o:(e.V _).V (.I 5 (BP 1 1 0 0 Aa))=l
 have d:=Td L (.i .n 0) l (CM c) a.A8
 rw[Wm]at d
 rw[Oo.2.2.2.1]
 subst o
 unfold IQ
 rcases Qp c _ with g|⟨f,b,g,k,_⟩
 .rw[g]at d⊢;have d:EP _ _ _ _ _ _=A (.AB [.i .n 0,.b Aa]):=d;have p:(match c[Int.toNat (-1)]?with
   |some b=>if 0<=-1/\(Ao (0<b.A_.l)=Ao (a.op=9))then(BP b.An b.Bk.l 0 0 L,L)else(BP 1 1 0 0 Aa,Aa)
   |none=>(BP 1 1 0 0 Aa,Aa))=(BP 1 1 0 0 Aa,Aa):=by grind
  rw[p];simp only[QY,QW,X1 _ _ _,bQ _ _ _,d,Up]
 .have h:0<=(f:K):=by omega
  rw[g,Af h]at d;rw[g,AdR,k];have d:EP Aa [2] (.i .n 0) L ((e.V (.I 4 (Au.c a))).V (.I 5 (BP 1 1 0 0 Aa))) [Jw (CM c),.s a.A8]=A (.AB [.i .n f,.b L]):=d;have j:=ac b;have i:=Ch .u8 a.op 9;show _=A (F.AB [.S (if 0<=(f:K)/\(Ao (0<b.A_.l)=Ao (a.op=9))then(BP b.An b.Bk.l 0 0 L,L)else(BP 1 1 0 0 Aa,Aa)).1,.b (if 0<=(f:K)/\(Ao (0<b.A_.l)=Ao (a.op=9))then(BP b.An b.Bk.l 0 0 L,L)else(BP 1 1 0 0 Aa,Aa)).2],(e.V (.I 4 (Au.c a))).V (.I 5 (if 0<=(f:K)/\(Ao (0<b.A_.l)=Ao (a.op=9))then(BP b.An b.Bk.l 0 0 L,L)else(BP 1 1 0 0 Aa,Aa)).1));generalize Ao (a.op=9)=m at i⊢;generalize Ao (0<b.A_.l)=n at j⊢;cases m<;>cases n<;>simp only[↓Q,↓QD,↓QW,↓H (X1 _ _ _),↓H (bQ _ _ _),↓H d,↓j.H B,↓H (CB k),↓H i,↓Up,QS,vd,Oo.2.2.2.2.1,h,QB,and_self,and_true,and_false,↓reduceIte]
def Ey(b:C Ab)(a:Au):C F×Ah:=
 if a.op=1 then(BP 1 1 (-1000000000) 1000000000 Aa,L)
 else if a.op=2 then(BP 1 1 0 1 Aa,L)
 else if a.op=4 then(BP (Du a.A8) 1 0 0 L,Ao (0<Du a.A8))
 else if a.op=5 then(BP 2 2 0 0 Aa,L)
 else if a.op=6\/a.op=7\/a.op=12 then(BP 2 1 0 0 Aa,L)
 else if a.op=11 then(BP 3 0 0 0 Aa,L)
 else if a.op=8\/a.op=9 then IQ b a
 else if a.op=3\/a.op=10\/a.op=13\/a.op=14 then(BP 1 1 0 0 Aa,L)
 else(BP 1 1 0 0 Aa,Aa)
def wL(f:C Ab)(a:Au)(Y:f.l<1000000000):xx W9 224 [.pi (DH f (CM f)),.S (Au.c a)] G.Aq=A (.AB [.S (Ey f a).1,.b (Ey f a).2],(G.Aq.V (.I 4 (Au.c a))).V (.I 5 (Ey f a).1)):=by
 have n:=mN f a Y G.Aq;have X:=qu a.A8;have g:∀(b:G)(n:F->G->R),bl (.p b.next 0) (b.V (.I 5 [(.n 0),(.n 0),(.n 0),(.n 0),(.b Aa)])) n=n (.p b.next 0) (b.V (.I 5 (BP 0 0 0 0 Aa))):=λ_ _=>B;have E:∀b:G,jj W9 224 3 [.b L,.p b.next 0] (b.V (.I 5 (BP 1 1 0 0 Aa)))=A (.AB [.S (BP 1 1 0 0 Aa),.b L],b.V (.I 5 (BP 1 1 0 0 Aa))):=λb=>by rw[Oo.2.2.2.2.2];simp only[↓Q,Sl]
 have W:∀b:G,jj W9 224 3 [.b Aa,.p b.next 0] (b.V (.I 5 (BP 1 1 0 0 Aa)))=A (.AB [.S (BP 1 1 0 0 Aa),.b Aa],b.V (.I 5 (BP 1 1 0 0 Aa))):=λb=>by rw[Oo.2.2.2.2.2];simp only[↓Q,↓QW]
 have I:∀(Z xa xb:F)(b:G),jj W9 224 5 [.b L,Z,xa,xb,.p b.next 0] (b.V (.I 5 (BP 1 1 0 0 Aa)))=A (.AB [.S (BP 2 1 0 0 Aa),.b L],b.V (.I 5 (BP 2 1 0 0 Aa))):=λ_ _ _ b=>by rw[Oo.2.2.1];simp only[↓Q,↓QW,Sl]
 have c:=Ch .u8 a.op 1;have d:=Ch .u8 a.op 2;have i:=Ch .u8 a.op 3;have e:=Ch .u8 a.op 4;have j:=Ch .u8 a.op 5;have m:=Ch .u8 a.op 6;have u:=Ch .u8 a.op 7;have v:=Ch .u8 a.op 8;have z:=Ch .u8 a.op 9;have h:=Ch .u8 a.op 10;have k:=Ch .u8 a.op 11;have y:=Ch .u8 a.op 12;have l:=Ch .u8 a.op 13;have t:=Ch .u8 a.op 14;unfold Ey;rw[Oo.1];by_cases o:a.op=1;.rw[A0 o]at c;rw[Af o];simp only[↓g,↓Q,↓QD,↓QW,↓H c,Sl]
 rw[A2 o]at c;rw[Ad o];by_cases q:a.op=2;.rw[A0 q]at d;rw[Af q];simp only[↓g,↓Q,↓QD,↓QW,↓H c,↓H d,Sl]
 rw[A2 q]at d;rw[Ad q];by_cases r:a.op=4;.rw[A0 r]at e;rw[Af r];have V:=Ew .n (Du a.A8) 0;simp only[↓g,↓Q,↓QD,↓QW,↓H c,↓H d,↓H e,↓X.H B,↓H V]
 rw[A2 r]at e;rw[Ad r];by_cases s:a.op=5;.rw[A0 s]at j;rw[Af s];simp only[↓g,↓Q,↓QD,↓QW,↓H c,↓H d,↓H e,↓H j,Sl]
 rw[A2 s]at j;rw[Ad s];by_cases T:a.op=6;.rw[A0 T]at m;rw[Af (by grind)];simp only[↓g,↓Q,↓QD,↓QW,↓H c,↓H d,↓H e,↓H j,↓H m,I]
 rw[A2 T]at m;by_cases U:a.op=7;.rw[A0 U]at u;rw[Af (by grind)];simp only[↓g,↓Q,↓QD,↓QW,↓H c,↓H d,↓H e,↓H j,↓H m,↓H u,I]
 rw[A2 U]at u;by_cases M:a.op=12;.rw[A0 M]at y;rw[Af (by grind)];simp only[↓g,↓Q,↓QD,↓QW,↓H c,↓H d,↓H e,↓H j,↓H m,↓H u,↓H y,I]
 rw[A2 M]at y;rw[Ad (by grind)];simp only[QY,QW, *];rw[Oo.2.2.1];by_cases p:a.op=11;.rw[A0 p]at k;rw[Af p];simp only[↓Q,↓QW,↓H k,Sl]
 rw[A2 p]at k;rw[Ad p];by_cases w:a.op=8;.rw[A0 w]at v;rw[Af (Or.inl w)];simp only[↓Q,↓H k,↓H v,n]
 rw[A2 w]at v;by_cases x:a.op=9;.rw[A0 x]at z;rw[Af (Or.inr x)];simp only[↓Q,↓H k,↓H v,↓H z,n]
 rw[A2 x]at z;rw[Ad (by grind)];simp only[QY, *];rw[Oo.2.2.2.1];by_cases S:a.op=3;.rw[A0 S]at i;rw[Af (by grind)];simp only[QY, *]
 rw[A2 S]at i;by_cases J:a.op=10;.rw[A0 J]at h;rw[Af (by grind)];simp only[↓Q,↓H i,↓H h,E]
 rw[A2 J]at h;by_cases N:a.op=13;.rw[A0 N]at l;rw[Af (by grind)];simp only[↓Q,↓H i,↓H h,↓H l,E]
 rw[A2 N]at l;by_cases P:a.op=14;.rw[A0 P]at t;rw[Af (by grind)];simp only[↓Q,↓H i,↓H h,↓H l,↓H t,E]
 rw[A2 P]at t;rw[Ad (by grind)];simp only[↓Q,↓H i,↓H h,↓H l,↓H t,W]
def Aab(f:C _)(g:Au):∃a b c d e,(IQ f g).1=BP a b c d e:=by
 unfold IQ;split;.split<;>grind
 .grind
def jQ(a:C _)(b:Au):∃c d e f g,(Ey a b).1=BP c d e f g:=by
 unfold Ey;split; ·grind
 split; ·grind
 split; ·grind
 split; ·grind
 split; ·grind
 split; ·grind
 split; ·exact Aab a b
 split<;>grind
def fZ(a:C Ab)(b:Au)(i:a.l<1000000000):AY 224 [.pi (DH a (CM a)),.S (Au.c b)] (.AB [.S (Ey a b).1,.b (Ey a b).2]):=by
 have c:=wL a b i;let⟨d,e,f,g,h,j⟩:=jQ a b
 rw[j]at c⊢;exact EV B B c (h:=(G.Aq.V (.I 4 (Au.c b))).V (.I 5 (BP d e f g h))) B
def mM(b:C Ab)(a:Au)(k:b.l<1000000000)(i:F)(d:G):jj W9 193 4 [.b L,i,.pi (DH b (CM b)),.p d.next 0] (d.V (.I 4 (Au.c a)))=A (.n (if 0<=CH b a.A8 then Pc b (CH b a.A8)else 0),d.V (.I 4 (Au.c a))):=by
 have c:=Td L (.n 0) (d.V (.I 4 (Au.c a))) (CM b) a.A8;rw[Wm]at c;rw[Q1.2.2.1];rcases Qp b a.A8 with e|⟨h,j,e,g,_⟩;.rw[e]at c⊢;have c:EP Aa [2] (.n 0) L (d.V (.I 4 (Au.c a))) [Jw (CM b),.s a.A8]=A (.AB [.n 0,.b Aa]):=c;rw[Ad (by grind)];simp only[QY,X1 _ _ _,c]
 .have f:0<=(h:K):=by omega
  rw[e,Af f]at c;rw[e,Af f];have c:EP Aa [2] (.n 0) L (d.V (.I 4 (Au.c a))) [Jw (CM b),.s a.A8]=A (.AB [.n h,.b L]):=c;simp only[QY,X1 _ _ _,c,Q1.2.2.2.1];simp only[↓Q,↓QD,↓H (bQ _ _ _),↓H (CB g)];unfold Pc;rw[AdR,g]
def Aaa(a:C Ab)(b:Au)(l:a.l<1000000000)(i:G){d c e f:K}{g j:Ah}(n:(Ey a b).1=BP d c e f g)(m:(Ey a b).2=j):jj W9 193 2 [.pi (DH a (CM a)),.p i.next 0] (i.V (.I 4 (Au.c b)))=A (.n (if j=L then c else 0),(i.V (.I 4 (Au.c b))).V (.I 5 (BP d c e f g))):=by
 have h:=fZ a b l
 rw[n,m]at h
 have o:(BP d c e f g)[1]? =A (.n c):=B
 have k:[F.pi (DH a (CM a)),F.S (Au.c b)].all Nf=L:=B
 rw[Q1.2.1]
 cases j with
 |false=>simp only[↓Q,↓QD,↓QW,↓h.H k,QB,↓reduceIte]
 |true=>simp only[↓Q,↓QD,↓QW,↓h.H k,Q1.2.2.2.2,QB,↓reduceIte];simp only[QY, *]
def fV(b:C Ab)(a:Au)(t:b.l<1000000000):AY 193 [.pi (DH b (CM b)),.S (Au.c a)] (.n (C7 b a)):=Bu B B B (by
 have d:=Ch .u8 a.op 8;have h:=Ch .u8 a.op 9;have m:=Ch .u8 a.op 4;have z:=λx=>mM b a t x G.Aq;have E:=λ{e c f g:K}{i w:Ah}=> @Aaa b a t G.Aq e c f g i w;rw[Q1.1];by_cases o:a.op=8;.rw[A0 o]at d;unfold C7;rw[Ad (by omega),Af (Or.inl o)];refine⟨G.Aq.V (.I 4 (Au.c a)),?_⟩;simp only[QY,d];grind
 rw[A2 o]at d;by_cases p:a.op=9;.rw[A0 p]at h;unfold C7;rw[Ad (by omega),Af (Or.inr p)];refine⟨G.Aq.V (.I 4 (Au.c a)),?_⟩;simp only[QY,d,h];grind
 rw[A2 p]at h;by_cases k:a.op=4;.rw[A0 k]at m;unfold C7;rw[Ad (by omega),Ad (by omega),Af (by omega)];refine⟨G.Aq.V (.I 4 (Au.c a)),?_⟩;simp only[QY,d,h,Q1.2.2.1];simp only[QY,m]
 rw[A2 k]at m;have v:∃e c f g i,(Ey b a).1=BP e c f g i/\C7 b a=if(Ey b a).2=L then c else 0:=by
  unfold Ey C7;by_cases j:a.op=1;.rw[Af j,Ad (by omega),Ad (by omega),Af (by omega)];grind
  by_cases n:a.op=2;.rw[Ad j,Af n,Ad (by omega),Ad (by omega),Af (by omega)];grind
  by_cases l:a.op=5;.rw[Ad j,Ad n,Ad k,Af l,Af l];grind
  rw[Ad j,Ad n,Ad k,Ad l,Ad l];by_cases s:a.op=6\/a.op=7\/a.op=12;.rw[Af s,Ad (by omega),Af (by omega)];grind
  rw[Ad s];by_cases q:a.op=11;.rw[Af q,Ad (by omega),Ad (by omega)];grind
  rw[Ad q,Ad (show¬(a.op=8\/a.op=9) by omega),Ad (show¬(a.op=8\/a.op=9) by omega)];by_cases r:a.op=3\/a.op=10\/a.op=13\/a.op=14;.rw[Af r,Af (by omega)];grind
  .rw[Ad r,Ad (by omega)];grind
 let⟨e,c,f,g,i,y,u⟩:=v
 rw[u];refine⟨(G.Aq.V (.I 4 (Au.c a))).V (.I 5 (BP e c f g i)),?_⟩;simp only[QY,d,h,Q1.2.2.1];simp only[QY,m];grind)
def qt(c:C _)(b:Ab)(a:AF)(e:D)(y:Cl c)(q:b.Cl)(M:1<=b.An)(I:e<=b.Av.l):AY 256 [.pi (DH c (CM c)),.S (Ab.c b),.S (AF.c a),.n e] (.b (K0 c b a e)):=Bu B B B ⟨(G.Aq.V (.I 5 (Ab.c b))).V (.I 2 (AF.c a)),by
 have J:=q.1;have N:=q.2.2.2.2.1.2;have h:=D7 .n a.Ax (-1);have j:=JW .n a.Ax e;have f:=D7 .n a.AD 0;have g:=DW .n a.Ax (-1);have r:=D7 .n a.AD b.An;unfold K0;rw[aS.1];by_cases o:a.Ax< -1
 .rw[A0 o]at h;rw[Ad (by omega)];have:BK a.Ax 0 (e-1)=Aa:=by unfold BK;rw[A2 (by omega)];rfl
  rw[this];simp only[QY,QB, *]
 rw[A2 o]at h;by_cases p:e<=a.Ax;.rw[A0 p]at j;rw[Ad (by omega)];unfold BK;rw[A2 (show¬a.Ax<=e-1 by omega),Bool.and_false];simp only[QY,h,j,QB]
 rw[A2 p]at j;by_cases m:a.Ax= -1
 .rw[A0 m]at g;have g:A6 .neq [.n a.Ax,.n (-1)]=A (.b Aa):=g;rw[Af m];by_cases k:a.AD<0
  .rw[A0 k]at f;have:BK a.AD 0 (b.An-1)=Aa:=by unfold BK;rw[A2 (by omega)];rfl
   rw[this];simp only[QY,h,j,f]
  .rw[A2 k]at f;have:BK a.AD 0 (b.An-1)=Ao (a.AD<b.An):=by
    unfold BK;rw[A0 (show 0<=a.AD by omega),Aep];by_cases H:a.AD<b.An;.grind
    .grind
   rw[this];simp only[QY,h,j,f,g,aS.2];simp only[QY,r]
 rw[A2 m]at g;have g:A6 .neq [.n a.Ax,.n (-1)]=A (.b L):=g;rw[Ad m];obtain⟨n,x⟩:∃n:D,a.Ax=n:=⟨a.Ax.n,by omega⟩;let⟨d,z,_⟩:=Ds (b:=b.Av) (a:=n) (by omega)
 have t:AR 4 [Z Au.c b.Av,.n a.Ax]=A (.pi d.c):=by rw[x];exact Fa z
 have E:b.Av[a.Ax.n]? =A d:=by grind
 have v:BK a.Ax 0 (e-1)=L:=by unfold BK;rw[A0 (show 0<=a.Ax by omega),A0 (by omega)];rfl
 rw[E,v,Aep];show _=A (F.b (BK a.AD 0 (C7 c d-1)),_);have u:=fV c d (by have:=y.1;omega);have w:[F.pi (DH c (CM c)),F.S (Au.c d)].all Nf=L:=B;have s:=D7 .n a.AD (C7 c d);by_cases k:a.AD<0
 .rw[A0 k]at f;have:BK a.AD 0 (C7 c d-1)=Aa:=by unfold BK;rw[A2 (by omega)];rfl
  rw[this];simp only[QY,h,j,f]
 .rw[A2 k]at f;have:BK a.AD 0 (C7 c d-1)=Ao (a.AD<C7 c d):=by
   unfold BK;rw[A0 (show 0<=a.AD by omega),Aep];by_cases H:a.AD<C7 c d;.grind
   .grind
  rw[this];simp only[QY,h,j,f,g,t,u.H w,aS.2];simp only[QY,s]⟩
variable{b:C _}
def fy{a:D}{c:AF}(d:b[a]? =A c):AR 2 [Z AF.c b,.n a]=A (.pi c.c):=EZ d B
def TW(c:G->Prop)(g:T)(f:C F)(h:C AF)(e:AF->Ah):Prop:=∀d∈h,∀a,c a->∃b,W9 g (.S (AF.c d)::f) a=A (.b (e d),b)/\c b
def Qq(a:AF->Ah):C AF->D->K
 |[],_=> -1
 |d::c,b=>if a d=L then b else Qq a c (b+1)
def fk(a:AF->Ah):∀(c:C _)(b:D),Ao (0<=Qq a c b)=c.any a
 |[],_=>rfl
 |e::d,b=>by
  rw[AfB,<-fk a d _]
  unfold Qq
  cases a e with
  |true=>rw[Af B,A0 (by omega)];rfl
  |false=>rw[Ad (by grind)];cases d<;>rfl
def tH{g:G->Prop}{k:T}{j:C F}{b:C AF}{d:AF->Ah}(u:TW g k j b d)(y:b.l<1000000000):∀e a c,b.l-a=e->a<=b.l->g c->∃o,jj W9 194 2 [.n b.l,.f k j,Z AF.c b,.n a] c=A (.n (Qq d (b.d a) a),o)/\g o:=by
 intro e
 induction e with
 |zero=>
  intro a c v w m;have h:¬(a:K)<b.l:=by omega
  refine⟨c,?_,m⟩;rw[SY.2.2.1];simp only[↓Q,↓QC,h,↓reduceIte];rw[SY.2.1,Ad1 (by omega)];rfl
 |succ e z=>
  intro a c v w m
  have h:(a:K)<b.l:=by omega
  let⟨f,n,x⟩:=Ds (b:=b) (a:=a) (by omega)
  let⟨p,s,t⟩:=u f (AdU n) c m
  have r:C8 W9 (.f k j) [.S (AF.c f)] c=A (.b (d f),p):=s
  rw[SY.2.2.1]
  simp only[↓Q,↓QC,h,↓reduceIte]
  rw[SY.2.2.2.1,x]
  unfold Qq
  cases q:d f with
  |true=>rw[q]at r;refine⟨p,?_,t⟩;simp only[QY,H (fy n),reduceIte, *]
  |false=>rw[q]at r;simp only[QY,H (fy n),SY.2.2.2.2,QB, *];simp only[↓Q,↓H (Bh (a:=a) (by omega))];grind
def YG{e:G->Prop}{g:T}{f:C F}{a:C AF}{d:AF->Ah}(l:TW e g f a d)(m:a.l<1000000000)(c:G)(k:e c):∃b,W9 (pos 146) [Z AF.c a,.f g f] c=A (.b (a.any d),b)/\e b:=by
 let⟨b,h,j⟩:=tH l m a.l 0 c (by omega) (by omega) k
 rw[Ad7]at h;have n:W9 (pos 194) [Z AF.c a,.f g f] c=A (.n (Qq d a 0),b):=AZ B B (by rw[SY.1];simp only[↓Q];grind)
 have i:=JW .n (Qq d a 0) 0;rw[fk]at i;refine⟨b,AZ B B ?_,j⟩;rw[sc];simp only[QY, *]
def qs(a:C _)(b:Ab)(d:AF)(c:D)(k:Cl a)(i:b.Cl)(m:1<=b.An)(l:c<=b.Av.l):AY 255 [.S (AF.c d),.pi [.pi (DH a (CM a))],.pi (Ab.c b),.pi [.n c]] (.b (!K0 a b d c)):=Bu B B B ⟨G.Aq.V (.I 2 (AF.c d)),by have f:=qt a b d c k i m l;have j:[F.pi (DH a (CM a)),.S (Ab.c b),.S (AF.c d),.n c].all Nf=L:=B;have p:([F.pi (DH a (CM a))])[0]? =A (.pi (DH a (CM a))):=B;have q:([F.n c])[0]? =A (.n c):=B;have r:∀{o:Type}(h:G)(g:C F)(e:F->Ae o),(AM h [.pi g]).b e=(g[0]?).b e:=λ_ _ _=>B;rw[sU];generalize K0 a b d c=n at f⊢;cases n<;>simp only[QY,f.H j,QB, *]⟩
def Yz(b c d:C F)(a:G):Prop:=DR (a.M .h)=A (1,b)/\DR (a.M (.o .h))=A (5,c)/\DR (a.M (.i .h))=A (1,d)
def oL{b c d:C F}{a:G}{e:F}(s:Nf e=L)(p:b.all Im=L)(q:c.all Im=L)(r:d.all Im=L)(m:Yz b c d a):∃f,FV a [e,.p .h 0,.p (.o .h) 0,.p (.i .h) 0]=A ([e,.pi b,.pi c,.pi d],f)/\Yz b c d f:=by
 let⟨n,t,u⟩:=m
 have g:=W6 s a;have h:=Z6 (e:=0) n p;have k:DR ((a.set .h (.rc 1 b)).M (.o .h))=A (5,c):=by rw[AN,Ad (by grind)];grind
 have i:=Z6 (e:=0) k q;have l:DR (((a.set .h (.rc 1 b)).set (.o .h) (.rc 5 c)).M (.i .h))=A (1,d):=by rw[AN,Ad (by grind),AN,Ad (by grind)];grind
 have j:=Z6 (e:=0) l r;refine⟨((a.set .h (.rc 1 b)).set (.o .h) (.rc 5 c)).set (.i .h) (.rc 1 d),?_,?_,?_,?_⟩;.rw[Sx,g];show(FV a [.p .h 0,.p (.o .h) 0,.p (.i .h) 0]).b _=_;rw[Sx,h];show((FV (a.set .h (.rc 1 b)) [.p (.o .h) 0,.p (.i .h) 0]).b _).b _=_;rw[Sx,i];show(((FV ((a.set .h (.rc 1 b)).set (.o .h) (.rc 5 c)) [.p (.i .h) 0]).b _).b _).b _=_;rw[Sx,j];rfl
 .rw[AN,Ad (by grind),AN,Ad (by grind),AN,Af B];rfl
 .rw[AN,Ad (by grind),AN,Af B];rfl
 .rw[AN,Af B];rfl
def uN(a:AF->Ah):∀b:C _,(!(b.any λc=> !a c))=b.all a
 |[]=>rfl
 |e::d=>by grind
def ae(a:C Ab)(b:Ab)(e:C AF)(c:D)(s:Cl a)(r:b.Cl)(v:1<=b.An)(t:c<=b.Av.l)(I:e.l<1000000):AY 223 [.pi (DH a (CM a)),.S (Ab.c b),Z AF.c e,.n c] (.b (Gl a b e c)):=Bu B B B (by
 have n:TW (Yz [.pi (DH a (CM a))] (Ab.c b) [.n c]) (pos 255) [.p .h 0,.p (.o .h) 0,.p (.i .h) 0] e (λf=> !K0 a b f c):=by
  intro l J m q;let⟨h,i,p⟩:=oL (e:=.S (AF.c l)) B B B B q
  exact⟨h,qs a b l c s r v t m _ h i,p⟩
 let⟨h,i,_⟩:=YG n (by omega) (((G.Aq.V (.I 1 [.pi (DH a (CM a))])).V (.I 5 (Ab.c b))).V (.I 1 [.n c])) ⟨B,B,B⟩
 have E:∀(d:G)(k:C _)(g:F->G->R),bl (.p d.next 0) (d.V (.I (Bq (F.I (.pi k))) (F.I (.pi k)))) g=g (.p d.next 0) (d.V (.I 1 [.pi k])):=λ_ _ _=>B;have H:∀(d:G)(j:K)(g:F->G->R),bl (.p d.next 0) (d.V (.I (Bq (F.I (.n j))) (F.I (.n j)))) g=g (.p d.next 0) (d.V (.I 1 [.n j])):=λ_ _ _=>B;have w:G.Aq.next=.h:=B;have x:(G.Aq.V (.I 1 [.pi (DH a (CM a))])).next=.o .h:=B
 have y:((G.Aq.V (.I 1 [.pi (DH a (CM a))])).V (.I 5 (Ab.c b))).next=.i .h:=B
 have o:(!(e.any λf=> !K0 a b f c))=Gl a b e c:=uN _ e;rw[<-o];refine⟨h,?_⟩;rw[sx];simp only[↓E,↓H,↓QD];rw[w,x,y];generalize(e.any λf=> !K0 a b f c)=z at i⊢;cases z<;>simp only[QY,QB, *])
def pt(a:C Ab)(b:Au)(c:a.l<1000000000):AY 145 [Z Ab.c a,.S (Au.c b)] (.n (C7 a b)):=Bu B B B ⟨G.Aq.V (.I 4 (Au.c b)),by have d:=fL a c;have e:=fV a b c;have f:[F.pi (DH a (CM a)),F.S (Au.c b)].all Nf=L:=B;rw[sb];simp only[QY,d.H B,e.H f]⟩
def lS{h:BN}{a b:D}(s:h[b]? =A a)(i:F)(g:G):jj W9 222 4 [.n (b:K),i,.s h] g=if(Nq a||(!Ao ((b:K)=0)&&Tr a))=L then jj W9 222 3 [.n (b:K),i,.s h] g else A (.b Aa,g):=by have t:=WM (d:=.n) s;have c:=JW .u8 (a:K) 97;have d:=Pa .u8 (a:K) 122;have e:=JW .u8 (a:K) 48;have f:=Pa .u8 (a:K) 57;have q:=Ch .u8 (a:K) 46;have r:=Ch .n (b:K) 0;rw[hx]at c d e f;unfold Nq Tr;rw[S1.2.2.2.1];generalize Ao ((a:K)<97)=j at c⊢;generalize Ao ((122:K)<a)=l at d⊢;generalize Ao ((a:K)<48)=m at e⊢;generalize Ao ((57:K)<a)=n at f⊢;generalize Ao ((a:K)=46)=o at q⊢;generalize Ao ((b:K)=0)=p at r⊢;cases j<;>cases l<;>cases m<;>cases n<;>cases o<;>cases p<;>simp only[Ad8,Aet]at c d e f<;>simp only[Q,ZR, *]<;>simp only[QB,↓reduceIte]
def Ri:BN->D->Ah
 |[],_=>L
 |a::c,b=>(Nq a||(!Ao ((b:K)=0)&&Tr a))&&Ri c (b+1)
def ib:∀(a:BN)(b:D),Ri a (b+1)=a.all Jz
 |[],_=>rfl
 |c::a,b=>by unfold Ri Jz;rw[ib a,Aer,A2 (by omega)];rfl
def tI(a:BN)(q:a.l<1000000000)(e:G):∀c b,a.l-b=c->b<=a.l->jj W9 222 2 [.n a.l,.n b,.s a] e=A (.b (Ri (a.d b) b&&(Ao ((0:K)<a.l)&&Ao ((a.l:K)<=24))),e):=by
 intro c
 induction c with
 |zero=>
  intro b k m;have d:¬(b:K)<a.l:=by omega
  have h:=Ew .n (a.l:K) 0;have j:=Pa .n (a.l:K) 24;rw[S1.2.2.1];simp only[↓Q,↓QC,d,↓reduceIte];rw[S1.2.1,Ad1 (by omega)];show _=A (F.b (L&&_),e);generalize Ao ((0:K)<a.l)=g at h⊢;generalize Ao ((a.l:K)<=24)=p at j⊢;cases g<;>simp only[QY,QB, *]
 |succ c r=>
  intro b k m;have d:(b:K)<a.l:=by omega
  let⟨f,n,o⟩:=Ds (b:=a) (a:=b) (by omega)
  rw[S1.2.2.1];simp only[↓Q,↓QC,d,↓reduceIte];rw[lS n,o];unfold Ri;cases Nq f||(!Ao ((b:K)=0)&&Tr f)
  .rfl
  .rw[Af B,Aep,S1.2.2.2.2];simp only[↓Q,↓H (Bh (a:=b) (by omega))];grind
def p5(a:BN)(e:a.l<1000000000):AY 222 [.s a] (.b (Ng a)):=Bu B B B ⟨G.Aq,by
 have f:=tI a e G.Aq a.l 0 (by omega) (by omega);have d:(Ri (a.d 0) 0&&(Ao ((0:K)<a.l)&&Ao ((a.l:K)<=24)))=Ng a:=by
  cases a with
  |nil=>rfl
  |cons b c=>rw[g1,Ad7];unfold Ri;rw[ib,A0 (show(0:K)<(b::c).l by simp only[Aec];omega),Aer];unfold Jz;cases Nq b<;>cases Ao (((b::c).l:K)<=24)<;>simp
 rw[d]at f;rw[S1.1];simp only[↓Q];grind⟩
structure IX{v:Type}(t:G->Prop)(q:F)(z:D)(l:C v)(w:v->F)(y:G->C F->Ae F):Prop where
 A7:DX [q]=A (.n l.l)
 Zp:∀(b:D) d,l[b]? =A d->∃c,AR z [q,.n (b:K)]=A c/\∀a,t a->y a [c]=A (w d)
theorem IX.Z{v:Type}{t:G->Prop}{b:v->C F}{z:D}(l:C v){w:v->F}{y:G->C F->Ae F}(f:∀a,(b a).l=z)(d:∀c a,y c [.pi (b a)]=A (w a)):IX t (Z b l) z l w y where
 A7:=DF b l
 Zp g a e:=⟨_,EZ e (f a),λc _=>d c a⟩
def M4{v:Type}(t:G->Prop)(r:T)(s:C F)(l:C v)(w:v->F)(u:v->Ah):Prop:=∀c∈l,∀a,t a->∃b,W9 r (w c::s) a=A (.b (u c),b)/\t b
def I5{v:Type}(u:v->Ah):C v->D->K
 |[],_=> -1
 |c::b,a=>if u c=L then a else I5 u b (a+1)
theorem Uy{v:Type}(u:v->Ah):∀(l:C _)(a:D),Ao (0<=I5 u l a)=l.any u
 |[],_=>rfl
 |c::b,a=>by
  rw[AfB,<-Uy u b _]
  unfold I5
  cases u c with
  |true=>rw[Af B,A0 (by omega)];rfl
  |false=>rw[Ad (by grind)];cases b<;>rfl
structure OX(k z:D)(y:G->C F->Ae F):Prop where
 ok:MI k
 im:KX (pos k)=L
 a:∀l g f,xx W9 k [l,g] f=(DX [l]).b λn=>jj W9 k 2 [n,g,l,.n 0] f
 b:∀f,jj W9 k 1 [] f=A (.n (-1),f)
 c:∀i g l h f,jj W9 k 2 [i,g,l,h] f=(A6 .lss [h,i]).b λn=>Da (jj W9 k 4 [h,i,g,l] f) (jj W9 k 1 [] f) n
 d:∀i g l h f,jj W9 k 4 [h,i,g,l] f=(AR z [l,h]).b λm=>(y f [m]).b λo=>(C8 W9 g [o] f).b λm=>Da (A (h,m.2)) (jj W9 k 3 [h,i,g,l] m.2) m.1
 e:∀i g l h f,jj W9 k 3 [h,i,g,l] f=(A6 .add [h,.n 1]).b λn=>jj W9 k 2 [i,g,l,n] f
structure RR(k j:D):Prop where
 ok:MI k
 im:KX (pos k)=L
 a:∀l b c,xx W9 k [l,b] c=(W9 (pos j) [l,b] c).b λd=>(A6 .geq [d.1,.n 0]).b λe=>A (e,d.2)
section
variable{v:Type} {t:G->Prop} {r:T} {s:C F} {q:F} {l:C v} {w:v->F} {u:v->Ah} {k j z:D} {y:G->C F->Ae F}
theorem tY(c:OX k z y)(M:IX t q z l w y)(E:M4 t r s l w u)(R:l.l<1000000000):∀f a b,l.l-a=f->a<=l.l->t b->∃h,jj W9 k 2 [.n l.l,.f r s,q,.n a] b=A (.n (I5 u (l.d a) a),h)/\t h:=by
 intro f
 induction f with
 |zero=>
  intro a b F G e;have g:¬(a:K)<l.l:=by omega
  refine⟨b,?_,e⟩;rw[c.c];simp only[↓Q,↓QC,g,↓reduceIte];rw[c.b,Ad1 (by omega)];rfl
 |succ f S=>
  intro a b F G e
  have g:(a:K)<l.l:=by omega
  let⟨d,n,N⟩:=Ds (b:=l) (a:=a) (by omega)
  let⟨T,I,J⟩:=M.Zp a d n
  let⟨m,o,x⟩:=E d (AdU n) b e
  have p:C8 W9 (.f r s) [w d] b=A (.b (u d),m):=o
  rw[c.c]
  simp only[↓Q,↓QC,g,↓reduceIte]
  rw[c.d,N,H I,H (J b e),H p]
  unfold I5
  cases P:u d with
  |true=>exact⟨m,by simp only[↓Q,↓reduceIte],x⟩
  |false=>simp only[↓Q,QB,↓reduceIte];rw[c.e,H (Bh (a:=a) (by omega))];grind
theorem gO(a:OX k z y)(d:IX t q z l w y)(g:M4 t r s l w u)(h:l.l<1000000000)(c:G)(f:t c):∃b,W9 (pos k) [q,.f r s] c=A (.n (I5 u l 0),b)/\t b:=by
 let⟨b,i,e⟩:=tY a d g h l.l 0 c (by omega) (by omega) f
 refine⟨b,AZ a.ok a.im ?_,e⟩;rw[a.a,H d.A7];grind
theorem M7(b:RR k j)(d:OX j z y)(m:IX t q z l w y)(h:M4 t r s l w u)(i:l.l<1000000000)(c:G)(g:t c):∃a,W9 (pos k) [q,.f r s] c=A (.b (l.any u),a)/\t a:=by
 let⟨a,n,f⟩:=gO d m h i c g
 have e:=JW .n (I5 u l 0) 0;rw[Uy]at e;refine⟨a,AZ b.ok b.im ?_,f⟩;rw[b.a];simp only[QY, *]
end
theorem gM:OX 92 1 AM:=⟨B,B,by intros;rw[U0.1],by intros;rw[U0.2.1],by intros;rw[U0.2.2.1],by intros;rw[U0.2.2.2.1],by intros;rw[U0.2.2.2.2]⟩
theorem dZ:RR 49 92:=⟨B,B,by intros;rw[s1]⟩
theorem SJ:OX 179 2 (A9 2):=⟨B,B,by intros;rw[UU.1],by intros;rw[UU.2.1],by intros;rw[UU.2.2.1],by intros;rw[UU.2.2.2.1],by intros;rw[UU.2.2.2.2]⟩
theorem Uk:RR 120 179:=⟨B,B,by intros;rw[rY]⟩
theorem ru:OX 191 1 AM:=⟨B,B,by intros;rw[UV.1],by intros;rw[UV.2.1],by intros;rw[UV.2.2.1],by intros;rw[UV.2.2.2.1],by intros;rw[UV.2.2.2.2]⟩
theorem l9:RR 136 191:=⟨B,B,by intros;rw[r3]⟩
theorem rv:OX 221 5 (A9 5):=⟨B,B,by intros;rw[UW.1],by intros;rw[UW.2.1],by intros;rw[UW.2.2.1],by intros;rw[UW.2.2.2.1],by intros;rw[UW.2.2.2.2]⟩
theorem l_:RR 187 221:=⟨B,B,by intros;rw[sk]⟩
theorem ry:OX 249 2 (A9 2):=⟨B,B,by intros;rw[UX.1],by intros;rw[UX.2.1],by intros;rw[UX.2.2.1],by intros;rw[UX.2.2.2.1],by intros;rw[UX.2.2.2.2]⟩
theorem mb:RR 207 249:=⟨B,B,by intros;rw[su]⟩
def Rk(b:C Ab)(d:Ab)(h:D)(a:Au):Ah:=match Ey b a with
 |([.i _ c,.i _ _,.i _ e,.i _ f,.b g],i)=>i&&(!(g != !Ao (a.A8=[]))&&(!Ao (a.n<e)&&(!Ao (f<a.n)&&(!(!Ao ((a.A3.l:K)=c))&&Gl b d a.A3 h))))
 |_=>Aa
def uH{e:Ab}{i:D}{a:Au}{d j f g:K}{h:Ah}(c:(Ey b a).1=BP d j f g h):Rk b e i a=((Ey b a).2&&(!(h != !Ao (a.A8=[]))&&(!Ao (a.n<f)&&(!Ao (g<a.n)&&(!(!Ao (a.A3.l=d))&&Gl b e a.A3 i))))):=by
 unfold Rk;generalize Ey b a=k at c⊢;let⟨l,_⟩:=k
 simp only at c;subst c;rfl
def PF(c:C Ab)(a:Ab):C Au->D->Ah
 |[],_=>L
 |d::e,b=>Rk c a b d&&PF c a e (b+1)
def Qe{a:D}{c:Au}(d:b[a]? =A c):AR 4 [Z Au.c b,.n a]=A (.pi c.c):=EZ d B
def lR(h:C Ab)(g:Ab){j:D}{a:Au}(n:g.Av[j]? =A a)(v:Cl h)(u:g.Cl)(M:1<=g.An)(y:F)(b:G)(E:b.M .h=A (.I 5 (Ab.c g)))(w:Lv b .h):∃m,AH b m/\jj W9 189 4 [.n j,y,Z Au.c g.Av,.pi (DH h (CM h)),.p .h 0] b=if Rk h g j a=L then jj W9 189 3 [.n j,y,Z Au.c g.Av,.pi (DH h (CM h)),.p .h 0] m else A (.b Aa,m):=by
 have P:=AdU n
 have N:=u.2.2.2.2.2 a P
 have xf:=(AdN.1 n).1
 let⟨d,i,e,f,c,x⟩:=jQ h a
 have l:=fZ h a (by have:=v.1;omega)
 have t:=ae h g a.A3 j v u M (by omega) N.1
 have J:=(I6 w (.I 4 (Au.c a))).t E
 have I:=(I6 (w.V (.I 4 (Au.c a))) (.I 5 (BP d i e f c))).t J
 have o:((b.V (.I 4 (Au.c a))).V (.I 5 (BP d i e f c))).AL .h 0 5=A (Ab.c g):=by rw[D1 I,Af (by omega),Af B]
 have xg:A9 5 ((b.V (.I 4 (Au.c a))).V (.I 5 (BP d i e f c))) [.p .h 0]=A (.S (Ab.c g)):=by rw[F5,o];rfl
 have z:=Ql a.A8 []
 have p:Fi L [.b c,.b (!Ao (a.A8=[]))]=A (.b (c != !Ao (a.A8=[]))):=B
 have q:=D7 .n a.n e
 have r:=Ew .n a.n f
 have s:=DW .n a.A3.l d
 refine⟨(b.V (.I 4 (Au.c a))).V (.I 5 (BP d i e f c)),(AH.V _ _).AI (AH.V _ _),?_⟩
 rw[uH x,QX.2.2.2.2.1]
 rw[x]at l
 generalize(Ey h a).2=X at l⊢
 generalize(c != !Ao (a.A8=[]))=Y at p⊢
 generalize Ao (a.n<e)=xa at q⊢
 generalize Ao (f<a.n)=xb at r⊢
 generalize(!Ao (a.A3.l=d))=xc at s⊢
 generalize Gl h g a.A3 j=xd at t⊢
 have xh:∀(b:G)(k:F->G->R),bl (.p b.next 0) (b.V (.I 4 [.i .u8 0,.s [],.n 0,.sn])) k=k (.p b.next 0) (b.V (.I 4 [.i .u8 0,.s [],.n 0,.sn])):=λ_ _=>B
 have xe:∀(b:G)(k:F->G->R),bl (.p b.next 0) (b.V (.I 5 [(.n 0),(.n 0),(.n 0),(.n 0),(.b Aa)])) k=k (.p b.next 0) (b.V (.I 5 (BP 0 0 0 0 Aa))):=λ_ _=>B
 have W:∀(b:G),AX 5 (b.V (.I 5 (BP 0 0 0 0 Aa))) [.p b.next 0,.S (BP d i e f c)]=A (AC,b.V (.I 5 (BP d i e f c))):=λb=>ET B B
 have S:(BP d i e f c)[0]? =A (.n d):=B
 have T:(BP d i e f c)[2]? =A (.n e):=B
 have U:(BP d i e f c)[3]? =A (.n f):=B
 have V:(BP d i e f c)[4]? =A (.b c):=B
 cases X
 rotate_left
 cases Y
 cases xa
 cases xb
 cases xc
 cases xd
 all_goals simp only[↓Q,↓QD,↓xe,↓H (W _),↓H S,↓H T,↓H U,↓H V,↓H (Qe n),↓l.H B,↓t.H B,↓H o,↓H z,↓H p,↓H q,↓H r,↓H s,QB,↓reduceIte]
def tG(d:C Ab)(a:Ab)(o:Cl d)(g:a.Cl)(q:1<=a.An):∀e b c,a.Av.l-b=e->b<=a.Av.l->c.M .h=A (.I 5 (Ab.c a))->Lv c .h->∃m,jj W9 189 2 [.n a.Av.l,Z Au.c a.Av,.pi (DH d (CM d)),.p .h 0,.n (b:K)] c=A (.b (PF d a (a.Av.d b) b),m):=by
 have x:=g.1
 intro e
 induction e with
 |zero=>
  intro b c n p h j;have f:¬(b:K)<a.Av.l:=by omega
  refine⟨c,?_⟩;rw[QX.2.2.2.1];simp only[↓Q,↓QC,f,↓reduceIte];rw[QX.2.2.1,Ad1 (by omega)];rfl
 |succ e y=>
  intro b c n p h j
  have f:(b:K)<a.Av.l:=by omega
  let⟨t,r,s⟩:=Ds (b:=a.Av) (a:=b) (by omega)
  let⟨w,v,k⟩:=lR d a r o g q (.n (a.Av.l:K)) c h j
  rw[QX.2.2.2.1]
  simp only[↓Q,↓QC,f,↓reduceIte]
  rw[k,s]
  unfold PF
  cases u:Rk d a b t with
  |false=>grind
  |true=>rw[Af B,QX.2.2.2.2.2,Aep];simp only[↓Q,↓H (Bh (a:=b) (by omega))];grind
def MG(b:C Ab)(a:Ab):Ah:=
 !(!Ng a.A8)&&(!Ao (a.An<1)&&(!(Ao (0<a.A_.l)&& !Ao ((a.A_.l:K)=a.An))&&(!(!Gl b a a.A_ a.Av.l)&&(!(!Gl b a a.Bk a.Av.l)&&PF b a a.Av 0))))
def pN(b:C Ab)(a:Ab)(g:Cl b)(c:a.Cl):AY 189 [.pi (DH b (CM b)),.S (Ab.c a)] (.b (MG b a)):=Bu B B B (by
 have e:=p5 a.A8 (by have:=c.2.2.2.1;omega);have k:=ac a;have s:(G.Aq.V (.I 5 (Ab.c a))).M .h=A (.I 5 (Ab.c a)):=B;have d:=D7 .n a.An 1;have j:=DW .n a.A_.l a.An;have q:∀f,f=G.Aq.V (.I 5 (Ab.c a))->A9 5 f [.p G.Aq.next 0]=A (.S (Ab.c a)):=λf p=>by subst p;rfl
 unfold MG;rw[QX.1];by_cases h:1<=a.An
 .let⟨r,n⟩:=tG b a g c h a.Av.l 0 (G.Aq.V (.I 5 (Ab.c a))) (by omega) (by omega) s (E9 _ _)
  rw[Ad7]at n;have o:jj W9 189 5 [.pi (DH b (CM b)),.p G.Aq.next 0] (G.Aq.V (.I 5 (Ab.c a)))=A (.b (PF b a a.Av 0),r):=by rw[QX.2.1];simp only[↓Q,↓QD];exact n
  have l:=ae b a a.A_ a.Av.l g c h (CK _) c.2.1;have m:=ae b a _ a.Av.l g c h (CK _) c.2.2.1;rw[A2 (show¬a.An<1 by omega)]at d⊢;generalize Ng a.A8=i at e⊢;generalize Ao (0<a.A_.l)=t at k⊢;generalize(!Ao (a.A_.l=a.An))=u at j⊢;generalize Gl b a a.A_ a.Av.l=v at l⊢;generalize Gl b a a.Bk a.Av.l=w at m⊢;generalize PF b a a.Av 0=x at o⊢;cases i<;>cases t<;>cases u<;>cases v<;>cases w<;>simp only[↓Q,↓QD,↓e.H B,↓k.H B,↓l.H B,↓m.H B,↓H d,↓H j,↓H (q _ B),o,QB]<;>grind
 .rw[A0 (show a.An<1 by omega)]at d⊢;generalize Ng a.A8=i at e⊢;cases i<;>simp only[↓Q,↓QD,↓e.H B,↓H d,QB]<;>grind)
def RK:C Ab->K->K
 |[],a=>a
 |b::c,a=>RK c (a+b.Av.l)
def PY:C Ab->Ah->Ah
 |[],a=>a
 |b::c,a=>PY c (a||PZ b)
def ko:∀(c:C Ab)(a:K),a<=RK c a
 |[],a=>Afd a
 |b::d,a=>by unfold RK;have:=ko d (a+b.Av.l);omega
def kD:∀a:C _,PY a L=L
 |[]=>rfl
 |c::b=>by unfold PY;rw[Bool.true_or];exact kD b
def jw:∀(c:C Ab)(a:K),a<=400->ND c a= !(Ao (400<RK c a)||PY c Aa)
 |[],a,f=>by show L= !(Ao (400<a)||false);grind
 |b::d,a,f=>by
  unfold ND RK PY;by_cases e:400<a+b.Av.l;.have:=ko d (a+b.Av.l);grind
  .rw[A2 e,jw d _ (by omega)]
   cases PZ b with
   |true=>show(Aa&&_)= !(_||PY d L);rw[kD];simp
   |false=>rfl
def fa(a:BN):∀(c d:C Ab)(b:D),ID a (c++d) b=if a∈c.m Ab.A8 then ID a c b else ID a d (b+c.l)
 |[],d,b=>by simp
 |f::c,d,b=>by
  rw[List.cons_append,W0,W0];by_cases e:f.A8=a;.grind
  .rw[Ad e,fa a _ d _,Ad e];grind
def fb(b:BN):∀(c:C Ab)(a:D),b∈c.m Ab.A8->ID b c a<(a+c.l:D)
 |[],_,d=>by grind
 |e::g,a,d=>by
  unfold ID;by_cases f:e.A8=b;.grind
  .rw[Ad f];rw[AeC,Ad6]at d;have:=fb b g (a+1) P;grind
def bz(g:C _):∀(d a:C Ab)(b:C (BN×F)),g=a++d->(∀f,(DV b f).isSome=Ao (f∈a.m Ab.A8))->(Nu d a.l b).l<=b.l+d.l/\Lc g d a.l=Ao ((Nu d a.l b).l=b.l+d.l)
 |[],a,b,_,_=>⟨CK _,by show L=Ao (b.l=b.l+0);simp⟩
 |c::d,a,b,j,i=>by
  have m:(a++[c]).l=a.l+1:=by simp
  have l:CH g c.A8=a.l↔c.A8∉a.m Ab.A8:=by
   rw[j,CH,fa];by_cases e:c.A8∈a.m Ab.A8;.rw[Af e];have:=fb c.A8 a 0 e;grind
   .rw[Ad e,W0,Af B];grind
  unfold Nu Lc;have h:=i c.A8;by_cases e:c.A8∈a.m Ab.A8;.rw[A0 e]at h;rw[Af h];have k:=bz g d (a++[c]) b P P;grind
  .rw[A2 e]at h;rw[Ad (by grind)];have k:=bz g d (a++[c]) (b++[(c.A8,.n a.l)]) P (λf=>by
    rw[R5,Aes]
    have:=i f
    cases n:DV b f with
    |some o=>grind
    |none=>grind)
   grind
def is(a:C _):(CM a).l<=a.l/\Lc a a 0=Ao ((CM a).l=a.l):=by
 let⟨c,b⟩:=bz a a [] [] B (λd=>by simp[DV])
 have b:Lc a a 0=Ao ((Nu a 0 []).l=([]).l+a.l):=b;refine⟨by simpa[CM]using c,?_⟩;rw[b];exact decide_eq_decide.2 (by rw[Afw,Ad2];rfl)
def uI(b:C _)(j:Ab)(l:D)(a:Au):Rk b j l a=OC b j l a:=by
 unfold Rk OC;generalize Gl b j a.A3 l=d;generalize G:a.A3.l=F;by_cases c:a.A8=[];all_goals
  by_cases m:a.op=1
  .cases d<;>rw[Aek]<;>simp[Ey,Fy,GX,HS,BK,BP,m,c]<;>omega
  by_cases s:a.op=2
  .cases d<;>rw[Aek]<;>simp[Ey,Fy,GX,HS,BK,BP,s,c]<;>omega
  by_cases u:a.op=4
  .generalize y:Du a.A8=E;by_cases k:0<E;all_goals cases d<;>rw[Aek]<;>simp[Ey,Fy,GX,HS,BK,BP,u,c,y,k]<;>omega
  by_cases v:a.op=5
  .cases d<;>rw[Aek]<;>simp[Ey,Fy,GX,HS,BK,BP,v,c]<;>omega
  by_cases w:a.op=6
  .cases d<;>rw[Aek]<;>simp[Ey,Fy,GX,HS,BK,BP,w,c]<;>omega
  by_cases x:a.op=7
  .cases d<;>rw[Aek]<;>simp[Ey,Fy,GX,HS,BK,BP,x,c]<;>omega
  by_cases p:a.op=12
  .cases d<;>rw[Aek]<;>simp[Ey,Fy,GX,HS,BK,BP,p,c]<;>omega
  by_cases o:a.op=11
  .cases d<;>rw[Aek]<;>simp[Ey,Fy,GX,HS,BK,BP,o,c]<;>omega
  by_cases h:a.op=8
  .cases z:b[(CH b a.A8).n]?with
   |none=>
    have e:IQ b a=(BP 1 1 0 0 Aa,Aa):=by unfold IQ;grind
    have f:J1 b a= -1:=by unfold J1;grind
    cases d<;>rw[Aek]<;>simp[Ey,Fy,GX,HS,BK,BP,h,c,e,f]<;>omega
   |some g=>
    by_cases k:0<=CH b a.A8/\(Ao (0<g.A_.l)=Ao (a.op=9))
    .have e:IQ b a=(BP g.An g.Bk.l 0 0 L,L):=by unfold IQ;grind
     have f:J1 b a=g.An:=by unfold J1;grind
     cases d<;>rw[Aek]<;>simp[Ey,Fy,GX,HS,BK,BP,h,c,e,f]<;>omega
    .have e:IQ b a=(BP 1 1 0 0 Aa,Aa):=by unfold IQ;grind
     have f:J1 b a= -1:=by unfold J1;grind
     cases d<;>rw[Aek]<;>simp[Ey,Fy,GX,HS,BK,BP,h,c,e,f]<;>omega
  by_cases i:a.op=9
  .cases z:b[(CH b a.A8).n]?with
   |none=>
    have e:IQ b a=(BP 1 1 0 0 Aa,Aa):=by unfold IQ;grind
    have f:J1 b a= -1:=by unfold J1;grind
    cases d<;>rw[Aek]<;>simp[Ey,Fy,GX,HS,BK,BP,i,c,e,f]<;>omega
   |some g=>
    by_cases k:0<=CH b a.A8/\(Ao (0<g.A_.l)=Ao (a.op=9))
    .have e:IQ b a=(BP g.An g.Bk.l 0 0 L,L):=by unfold IQ;grind
     have f:J1 b a=g.An:=by unfold J1;grind
     cases d<;>rw[Aek]<;>simp[Ey,Fy,GX,HS,BK,BP,i,c,e,f]<;>omega
    .have e:IQ b a=(BP 1 1 0 0 Aa,Aa):=by unfold IQ;grind
     have f:J1 b a= -1:=by unfold J1;grind
     cases d<;>rw[Aek]<;>simp[Ey,Fy,GX,HS,BK,BP,i,c,e,f]<;>omega
  by_cases t:a.op=3
  .cases d<;>rw[Aek]<;>simp[Ey,Fy,GX,HS,BK,BP,t,c]<;>omega
  by_cases n:a.op=10
  .cases d<;>rw[Aek]<;>simp[Ey,Fy,GX,HS,BK,BP,n,c]<;>omega
  by_cases q:a.op=13
  .cases d<;>rw[Aek]<;>simp[Ey,Fy,GX,HS,BK,BP,q,c]<;>omega
  by_cases r:a.op=14
  .cases d<;>rw[Aek]<;>simp[Ey,Fy,GX,HS,BK,BP,r,c]<;>omega
  cases d<;>rw[Aek]<;>simp[Ey,Fy,GX,HS,BK,BP,m,s,t,u,v,w,x,h,i,n,o,p,q,r,c]<;>omega
def il(d:C _)(b:Ab):∀(a:C _)(c:D),PF d b a c=Nt d b a c
 |[],_=>rfl
 |e::a,c=>by unfold PF Nt;rw[uI,il d b a]
def lM(b:C _)(a:Ab):MG b a=KA b a:=by unfold MG KA;rw[il];grind
def Zd(a:C Ab):K:=
 if(Ao ((60:K)<a.l)||decide ((400:K)<RK a 0)||PY a Aa)=L then 5
 else if(a.any λb=> !MG a b)=L then 4
 else if((CM a).l:K)<a.l then 6
 else if KF a=Aa then 9
 else 0
def P_{d:Type}(a:d->Ah):∀b:C _,(b.any λc=> !a c)= !(b.all a)
 |[]=>rfl
 |f::e=>by grind
def ee(a:C Ab):Zd a=D5 a:=by
 unfold Zd D5;rw[jw a 0 (by omega)];have c:(a.any λb=> !MG a b)= !(a.all λb=>KA a b):=by rw[P_];congr 2;funext b;exact lM a b
 rw[c,(is a).2];have e:=(is a).1;by_cases d:(60:K)<a.l;.grind
 grind
def Ss(c:Cl b){d:D}{a:Ab}(e:b[d]? =A a):a.Cl:=c.2 a P
def OY(b:C Ab)(c:T)(a:G):Prop:=a.M c=A (.I 1 [.pi (DH b (CM b))])/\Lv a c
def pM(b:C Ab)(i:Cl b)(a:Ab)(j:a∈b)(d:T)(c:G)(e:OY b d c):∃f,W9 (pos 188) [.S (Ab.c a),.p d 0] c=A (.b (!MG b a),f)/\OY b d f:=by
 have g:=pN b a i (i.2 a j);have h:=(I6 e.2 (.I 5 (Ab.c a))).t e.1;have l:AM (c.V (.I 5 (Ab.c a))) [.p d 0]=A (.pi (DH b (CM b))):=by rw[Qm,Ay h];rfl
 refine⟨c.V (.I 5 (Ab.c a)),AZ B B ?_,h,e.2.V _⟩;rw[sm];generalize MG b a=k at g⊢;cases k<;>simp only[QY,g.H B,QB, *]
def ua(a b c:K):∃d,H9 [.n a,.n b,.n c]=A (.n d)/\Ao (12<d)=(Ao (12<a)||decide (12<b)||decide (12<c)):=by
 refine⟨Aj (LD c (Aj (LD b a) a b)) (Aj (LD b a) a b) c,?_,?_⟩;.show Rf .n a _=_;unfold Rf;rw[K1];unfold Rf;rw[K1];rfl
 .rw[MF,MF];grind
def lQ(d:C Ab){i:D}{c:Ab}(m:d[i]? =A c)(p:Cl d)(n:F)(e:K)(t:0<=e/\e<=1000000000000)(k:Ah)(f:T)(g:G)(h:OY d f g):∃l,OY d f l/\jj W9 135 5 [.n e,.b k,.n i,n,Z Ab.c d,.p f 0] g=jj W9 135 4 [.n i,n,Z Ab.c d,.n (e+c.Av.l),.b (k||PZ c),.p f 0] l:=by
 let⟨j,s,q⟩:=ua c.An c.A_.l c.Bk.l
 have r:PZ c=Ao (12<j):=q.s;have o:=Ew .n j 12;refine⟨g.V (.I 5 (Ab.c c)),⟨(I6 h.2 _).t h.1,h.2.V _⟩,?_⟩;rw[r,QN.2.2.2.1];generalize Ao (12<j)=u at o⊢;cases k<;>simp only[QY,H (CB m),H (F2 (a:=e) (b:=c.Av.l) (by omega) (by have:=(Ss p m).1;omega)),QB, *]
def nB(a:C Ab)(M:Cl a)(m:K)(l:Ah)(k:T)(f:G)(o:OY a k f):
  ∃R,jj W9 135 2 [.n m,.b l,.p k 0] f=A (.n (if(Ao ((60:K)<a.l)||decide (400<m)||l)=L then 5
   else if(a.any λc=> !MG a c)=L then 4 else if((CM a).l:K)<a.l then 6 else if KF a=Aa then 9 else 0),R):=by
 have X:=M.1
 have g:∀b,OY a k b->AM b [.p k 0]=A (.pi (DH a (CM a))):=λb z=>by rw[Qm,Ay z.1];rfl
 have U:IX (OY a k) (Z Ab.c a) 5 a (λc=>.S (Ab.c c)) (A9 5):=IX.Z a (λ_=>B) (λ_ _=>B)
 let⟨r,n,s⟩:=M7 l_ rv U (λW S b z=>pM a M W S k b z) (by omega) f o
 have i:=Ew .n a.l 60
 have j:=Ew .n m 400
 have h:=D7 .n (CM a).l a.l
 have t:∀b,H8 b [Jw (CM a)]=A (.n (CM a).l):=λb=>by show A (F.n (Int.ofNat ((CM a).m _).l))=_;rw[Ad9];rfl
 have d:=Td L (.n 0) f (CM a) GN
 rw[Wm]at d
 have u:∀b,AM b [.pi ((DH a (CM a)).d 0)]=A (Z Ab.c a):=λ_=>B
 have v:∀b,AM b [.pi ((DH a (CM a)).d 1)]=A (Jw (CM a)):=λ_=>B
 rw[QN.2.1]
 generalize(a.any λc=> !MG a c)=w at n⊢
 by_cases x:0<=CH a GN
 .rcases Qp a GN with y|⟨N,c,y,J,_⟩;.grind
  have I:=ac c;have E:KF a= !Ao (0<c.A_.l):=by unfold KF;rw[y,AdR,J];show(Ao (0<=N)&&Ao (c.A_.l=0))=_;rw[A0 (by omega),Aep,<-decide_not];exact decide_eq_decide.2 (by omega)
  rw[Af x,y]at d;have d:EP Aa [2] (.n 0) L f [Jw (CM a),.s GN]=A (.AB [.n N,.b L]):=d;unfold GN at d;rw[E];have P:∀b,A9 5 b [.pi (Ab.c c)]=A (.S (Ab.c c)):=λ_=>B;generalize Ao ((60:K)<a.l)=p at i⊢;generalize Ao (400<m)=q at j⊢;generalize Ao (0<c.A_.l)=V at I⊢;by_cases e:((CM a).l:K)<a.l;.rw[A0 e]at h;rw[Af e];cases p<;>cases q<;>cases l<;>cases w<;>simp only[↓Q,↓H (g f o),↓H (g r s),↓H (u _),↓H (v _),↓H d,↓H i,↓H j,↓H n,↓H (t _),↓H h,QB]<;>exact⟨_,B⟩
  .rw[A2 e]at h;rw[Ad e];cases p<;>cases q<;>cases l<;>cases w<;>cases V<;>simp only[↓Q,↓H (g f o),↓H (g r s),↓H (u _),↓H (v _),↓H d,↓H i,↓H j,↓H n,↓H (t _),↓H h,↓H (CB J),↓H (P _),↓I.H B,QN.2.2.2.2.2,QB]<;>grind
 .have E:KF a=Aa:=by
   unfold KF
   rw[A2 x]
   split<;>rfl
  rw[Ad x]at d
  unfold GN at d
  rw[E]
  generalize Ao ((60:K)<a.l)=p at i⊢
  generalize Ao (400<m)=q at j⊢
  by_cases e:((CM a).l:K)<a.l
  .rw[A0 e]at h;rw[Af e];cases p<;>cases q<;>cases l<;>cases w<;>simp only[↓Q,↓H (g f o),↓H (g r s),↓H (u _),↓H (v _),↓H d,↓H i,↓H j,↓H n,↓H (t _),↓H h,QB]<;>exact⟨_,B⟩
  .rw[A2 e]at h;rw[Ad e];cases p<;>cases q<;>cases l<;>cases w<;>simp only[↓Q,↓H (g f o),↓H (g r s),↓H (u _),↓H (v _),↓H d,↓H i,↓H j,↓H n,↓H (t _),↓H h,QB]<;>exact⟨_,B⟩
def tE(a:C Ab)(f:Cl a)(h:T):∀g b c d e,a.l-b=g->b<=a.l->0<=c->c<=(b:K)*1000000->OY a h e->
  ∃s,jj W9 135 3 [.n (a.l:K),Z Ab.c a,.n (b:K),.n c,.b d,.p h 0] e=A (.n (if(Ao ((60:K)<a.l)||decide ((400:K)<RK (a.d b) c)||PY (a.d b) d)=L then 5
   else if(a.any λp=> !MG a p)=L then 4 else if((CM a).l:K)<a.l then 6 else if KF a=Aa then 9 else 0),s):=by
 have G:=f.1
 intro g
 induction g with
 |zero=>
  intro b c d e w x m v k;have j:¬(b:K)<a.l:=by omega
  rw[QN.2.2.1];simp only[↓Q,↓QC,j,↓reduceIte];rw[Ad1 (by omega)];exact nB a f c d h e k
 |succ g E=>
  intro b c d e w x m v k;have j:(b:K)<a.l:=by omega
  let⟨o,n,y⟩:=Ds (b:=a) (a:=b) (by omega)
  have F:=(Ss f n).1;let⟨t,z,q⟩:=lQ a n f (.n (a.l:K)) c ⟨m,by omega⟩ d h e k
  let⟨u,r⟩:=E (b+1) (c+o.Av.l) (d||PZ o) t (by omega) (by omega) (by omega) (by omega) z
  refine⟨u,?_⟩;rw[QN.2.2.1];simp only[↓Q,↓QC,j,↓reduceIte];rw[q,QN.2.2.2.2.1];simp only[↓Q,↓H (Bh (a:=b) (by omega))];rw[r,y];rfl
def pq(a:C _)(i:Cl a):AY 135 [.pi (DH a (CM a))] (.n (D5 a)):=Bu B B B (by
 let⟨h,c⟩:=tE a i _ a.l 0 0 Aa (G.Aq.V (.I 1 [.pi (DH a (CM a))])) (by omega) (by omega) (by omega) (by omega) ⟨B,E9 _ _⟩
 refine⟨h,?_⟩;rw[<-ee];unfold Zd;rw[Ad7]at c;have l:∀(b:G)(d:C F)(c:F->G->R),bl (.p b.next 0) (b.V (.I (Bq (F.I (.pi d))) (F.I (.pi d)))) c=c (.p b.next 0) (b.V (.I 1 [.pi d])):=λ_ _ _=>B;have k:(DH a (CM a)).d 0=DH a (CM a):=B;have j:∀f,AM f [.pi (DH a (CM a))]=A (Z Ab.c a):=λ_=>B;have m:G.Aq.next=.h:=B;have g:∀(e:F->R),(([F.pi (DH a (CM a))])[0]?).b e=e (.pi (DH a (CM a))):=by grind
 rw[QN.1];simp only[↓l,↓Q,↓g,k,↓H (j _)];grind)
def gn(a:C Ab)(f:Cl a):AY 91 [Z Ab.c a] (.AB [if D5 a=0 then .pi (DH a (CM a))else .pn,.n (D5 a)]):=by
 have d:=fL a (by have:=f.1;omega);have e:=pq a f;have c:=DW .n (D5 a) 0;by_cases b:D5 a=0;.rw[Af b];rw[A0 b]at c;refine Bu B B B ⟨G.Aq,?_⟩;rw[aW.1];simp only[QY,d.H B,e.H B,c,QB,aW.2];grind
 .rw[Ad b];rw[A2 b]at c;refine Bu B B B ⟨G.Aq,?_⟩;rw[aW.1];simp only[QY,d.H B,e.H B,QB, *]
def qL(a:C _)(d:Cl a):AY 48 [Z Ab.c a] (.n (D5 a)):=Bu B B B ⟨G.Aq,by
 have b:=gn a d;by_cases c:D5 a=0;.rw[Af c]at b;rw[ho];simp only[QY,b.H B]
 .rw[Ad c]at b;rw[ho];simp only[QY,b.H B]⟩
def I8(a:C Ab):K:=match a[(CH a GN).n]?with|some b=>b.An-1|none=>0
def hW{a:C _}(d:D5 a=0):∃c b,CH a GN=((c:D):K)/\a[c]? =A b/\b.A_.l=0:=by
 unfold D5 at d;have e:KF a=L:=by grind
 unfold KF at e;grind
def q9(c:C _)(k:Cl c):AY 93 [Z Ab.c c] (.AB [.n (if D5 c=0 then I8 c else 0),.n (D5 c)]):=Bu B B B ⟨G.Aq,by
 have g:=gn c k;have i:=DW .n (D5 c) 0;by_cases e:D5 c=0
 .rw[Af e]at g⊢;let⟨p,d,o,j,_⟩:=hW e
  have t:=(Ss k j).2.2.2.2.1;have u:1<=d.An\/d.An<=0:=by omega
  have f:=Td Aa (.n 0) G.Aq (CM c) GN;rw[Wm,o,Af (by omega)]at f;have f:EP Aa [2] (.n 0) Aa G.Aq [Jw (CM c),.s GN]=A (.n p):=f;unfold GN at f;have q:∀h,AM h [.pi ((DH c (CM c)).d 0)]=A (Z Ab.c c):=λ_=>B;have r:∀h,AM h [.pi ((DH c (CM c)).d 1)]=A (Jw (CM c)):=λ_=>B;rw[A0 e]at i;have s:1<=d.An:=by
   have:=ee c;unfold D5 at e;by_cases l:(c.all λd=>KA c d)=Aa;.grind
   .have l:(c.all λd=>KA c d)=L:=by grind
    have:=Aei.1 l d P;unfold KA at this;grind
  have m:=FA (a:=d.An) (b:=1) (by omega) (by omega);have n:I8 c=d.An-1:=by unfold I8;grind
  rw[aX.1,n];simp only[QY,g.H B,i,QB,aX.2,q _,r _,f,CB j,m];grind
 .rw[Ad e]at g⊢;rw[A2 e]at i;rw[aX.1];simp only[QY,g.H B,QB, *]⟩
