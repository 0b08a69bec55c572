/- Part of the proof. -/
import Derived.Test.YtmnfpdedgnfeiaaGreatMaz
set_option linter.all false
noncomputable section
open Option renaming some->A,none->O,getD->Option.g,bind->Option.b
open _root_ renaming rfl->B,List->C,Nat->D,Int->K,if_neg->Ad,if_pos->Af,Option->Aj,Bool->Ak,cond->An,decide_eq_false->Ba,decide_eq_true->Be
open Bool renaming true->L,false->Ac
open Decidable renaming decide->Au
open Nat renaming beq->Bb,le_refl->C6
open List renaming length->List.l,map->List.m,take->List.t,drop->List.d,toArray->List.a,flatMap->List.f
open Go.IntKind renaming i64->Go.IntKind.n
open Array renaming toList->Array.l
open Eq renaming trans->Eq.t,symm->Eq.s
open Or renaming inl->Or.i
open Int renaming toNat->Int.n
namespace Go.Proofs.YtmnfpdedgnfeiaaGreat
open Go.Fg
def Hq.vz{a:C _}{b:C (B0×F)}(c:Hq a b):a.m (·.HS)=b.m λd=>.s d.1:=by simpa[Aja,Function.comp_def]using(Aij (List.map Prod.fst) c)
def Hq.Dj{a:C BL}{b:C (B0×F)}(c:Hq a b):a.m (·.Dv)=b.m (·.2):=by simpa[Aja,Function.comp_def]using(Aij (List.map Prod.snd) c)
def Kk(a:C (B0×F)):F:=.mi (a.m λb=>.s b.1) (a.m (·.2))
def sD{b:G}{d:Aa}{a:C BL}{e:D}{f:C (B0×F)}(c:D)(l:b.N d=A (.Bu a e))(g:Hq a f)(m:(f.m (·.2)).all Im=L):DI (c+2) b (.m d)=A (Kk f,b.set d (.rm a e)):=by
 show(match Ir (b.N d)with
  |some (a,e)=>match Df (DI (c+1)) b (a.m BL.HS)with
   |some (o,i)=>match Df (DI (c+1)) i (a.m BL.Dv)with
    |some (p,j)=>A (F.mi o p,j.set d (.rm a e))
    |none=>O
   |none=>O
  |none=>O)=_
 rw[l];simp only[AaM];have k:(f.m λh=>F.s h.1).all Im=L:=by rw[AiP];intro q n;obtain⟨h,_,rfl⟩:=AiR.1 n;rfl
 rw[g.vz,O3 c b k];simp only[];rw[g.Dj,O3 c b m];rfl
def Ei(a:C Ab)(b:C (B0×F)):C F:=[Z Ab.c a,Kk b]
def sK{a:G}{g e:Aa}{b:C Ab}{i:C BL}{j:D}{d:C (B0×F)}(n:a.N g=A (.I 2 [Z Ab.c b,.m e]))(o:a.N e=A (.Bu i j))(l:Hq i d)(p:(d.m (·.2)).all Im=L):∃c,Dq a (.p g 0)=A (.pi (Ei b d),c):=by
 refine⟨(a.set e (.rm i j)).set g (.rc 2 [Z Ab.c b,.m e]),?_⟩;show(match Eg (a.N g)with
  |some (d,b)=>match Df (DI 39) a b with
   |some (q,c)=>A (F.pi (q.d 0),c.set g (.rc d b))
   |none=>O
  |none=>O)=_
 rw[n];simp only[qu];have r:Df (DI 39) a [Z Ab.c b,.m e]=A (Ei b d,a.set e (.rm i j)):=by
  show(match DI 39 a (Z Ab.c b)with
   |none=>O
   |some (k,c)=>match Df (DI 39) c [F.m e]with
    |none=>O
    |some (h,f)=>A (k::h,f))=_
  rw[(VQ 38 a B:DI 39 a (Z Ab.c b)=A (Z Ab.c b,a))];show(match(match DI _ a _ with
   |none=>O
   |some (k,c)=>match Df (DI 39) c []with
    |none=>O
    |some (h,f)=>A (k::h,f))with
    |none=>O
    |some (h,f)=>A (Z Ab.c b::h,f))=_
  rw[(sD (f:=d) 37 o l p)];rfl
 grind
def On:C Ab->D->C (B0×F)->C (B0×F)
 |[],_,a=>a
 |b::d,c,a=>On d (c+1) (if(Eu a b.Bk).isSome=L then a else a++[(b.Bk,.n (c:K))])
def C9(a:C Ab):C (B0×F):=On a 0 []
def oQ(j:C Ab){g:D}{a:Ab}(q:j[g]? =A a)(h b:Aa)(w:h≠b)(c:G)(e:C BL)(f:D)(k:C (B0×F))(v:c.N h=A (.I 2 [Z Ab.c j,.m b]))(x:c.N b=A (.Bu e f))(l:Hq e k)(y:Lv c h)(E:Lv c b)(r:F):
  ∃i p s,jj W9 105 4 [.n g,r,Z Ab.c j,.p h 0] c=jj W9 105 3 [.n g,r,Z Ab.c j,.p h 0] i/\i.N h=A (.I 2 [Z Ab.c j,.m b])/\i.N b=A (.Bu p s)/\
   Hq p (if(Eu k a.Bk).isSome=L then k else k++[(a.Bk,.n g)])/\Lv i h/\Lv i b:=by
 have m:=(Ke y (.I 5 (Ab.c a))).t v
 have n:=(Ke E (.I 5 (Ab.c a))).t x
 have u:Ql (c.V (.I 5 (Ab.c a))) (.m b)=A e:=by show(match Ir ((c.V (.I 5 (Ab.c a))).N b)with|some (e,_)=>A e|none=>O)=_;rw[n];rfl
 have d:=Yj (d:=L) (e:=.n 0) u l a.Bk
 cases o:Eu k a.Bk with
 |some H=>rw[o]at d;have d:E7 Ac [2] (.n 0) L (c.V (.I 5 (Ab.c a))) [.m b,.s a.Bk]=A (.AC [H,.b L]):=d;refine⟨c.V (.I 5 (Ab.c a)),e,f,?_,m,n,l,P,P⟩;rw[Sa.2.2.2.1];simp only[QY,Da q,m,d]
 |none=>
  rw[o]at d;have d:E7 Ac [2] (.n 0) L (c.V (.I 5 (Ab.c a))) [.m b,.s a.Bk]=A (.AC [.n 0,.b Ac]):=d;have t:=gQ n l o (.n g);refine⟨(c.V (.I 5 (Ab.c a))).set b (.Bu (e++[⟨.s a.Bk,.n g,f⟩]) (f+1)),e++[⟨.s a.Bk,.n g,f⟩],f+1,?_,?_,?_,l.Xe _ _ f,?_,?_⟩;.rw[Sa.2.2.2.1];simp only[QY,Da q,m,d,t]
  .rw[AY,Ad w];grind
  .rw[AY,Af B]
  .grind
  .grind
def Aag(a:C Ab)(Y:a.l<1000000000)(d e:Aa)(G:d≠e):∀j b c f g h,a.l-b=j->b<=a.l->c.N d=A (.I 2 [Z Ab.c a,.m e])->c.N e=A (.Bu f g)->Hq f h->Lv c d->Lv c e->∃k p s,jj W9 105 2 [.n a.l,Z Ab.c a,.n (b:K),.p d 0] c=A (.p d 0,k)/\k.N d=A (.I 2 [Z Ab.c a,.m e])/\k.N e=A (.Bu p s)/\Hq p (On (a.d b) b h):=by
 intro j
 induction j with
 |zero=>
  intro b c f g h E F n o m q r;have v:¬(b:K)<a.l:=by omega
  refine⟨c,f,g,?_,n,o,?_⟩;.rw[Sa.2.2.1];simp only[↓Q,↓QC,v,↓reduceIte];rw[Sa.2.1]
  .rw[Aiq (by omega)];exact m
 |succ j M=>
  intro b c f g h E F n o m q r;let⟨xb,I,J⟩:=Eh (b:=a) (a:=b) (by omega)
  let⟨y,w,t,S,T,U,V,W,X⟩:=oQ a I d e G c f g h n o m q r (.n (a.l:K))
  let⟨z,x,u,xa,N,P,R⟩:=M (b+1) y w t _ (by omega) (by omega) T U V W X
  refine⟨z,x,u,?_,N,P,?_⟩;.rw[Sa.2.2.1];simp only[↓Q,↓QC,Om,↓reduceIte];rw[S,Sa.2.2.2.2];simp only[↓Q,↓H (BF (a:=b) (by omega))];grind
  .rw[J];exact R
def kN:∀(d:C _)(c:D)(b:C _),(b.m (·.2)).all Im=L->((On d c b).m (·.2)).all Im=L
 |[],_,_,a=>a
 |f::e,c,b,a=>by
  refine kN e _ _ ?_;split;.grind
  .rw[AiZ,Ajm,a];rfl
def ic(a:C Ab)(l:a.l<1000000000):A2 105 [Z Ab.c a] (.pi (Ei a (C9 a))):=by
 have j:∀(c:G)(b:Aa),BE [.sn,.mn] [(0,1),(1,1)] [Z Ab.c a,.m b]=A (.S [Z Ab.c a,.m b]):=λ_ _=>B;let⟨i,_,_,m,f,g,d⟩:=Aag a l (.o .h) .h (by grind) a.l 0 ((G.Az.V (.Bu [] 0)).V (.I 2 [Z Ab.c a,.m .h])) [] 0 [] (by omega) (by omega) B B B (GD _ _) ((GD _ _).V _)
 rw[AiE]at d;let⟨n,h⟩:=sK f g d (kN a 0 [] B)
 refine FN B B (c:=i) (e:=.p (.o .h) 0) ?_ h;have k:∀(c:G)(b:Aa)(e:F->G->R),bl (.p c.next 0) (c.V (.I (BK (F.I (.S [Z Ab.c a,.m b]))) (F.I (.S [Z Ab.c a,.m b])))) e=e (.p c.next 0) (c.V (.I 2 [Z Ab.c a,.m b])):=λ_ _ _=>B;have p:(G.Az.V (.Bu [] 0)).next=.o .h:=B
 have o:G.Az.next=.h:=B;rw[Sa.1];simp only[↓Q,↓H (j G.Az _),↓k];grind
def Tt:∀(h:C _)(c a:B0)(d:F),Eu (h++[(c,d)]) a=match Eu h a with|some b=>A b|none=>if c=a then A d else O
 |[],c,a,d=>rfl
 |(e,b)::f,c,a,d=>by
  show(if e=a then A b else Eu (f++[(c,d)]) a)=match(if e=a then A b else Eu f a)with|some b=>A b|none=>_
  by_cases g:e=a;.grind
  .rw[Ad g,Ad g,Tt f]
theorem Yv(b:B0)(c:Ab)(d:C _)(a:D):I7 b (c::d) a=if c.Bk=b then(a:K)else I7 b d (a+1):=rfl
def fr:∀(d:C _)(c:D)(b:C (B0×F))(a:B0),Eu (On d c b) a=match Eu b a with|some e=>A e|none=>if 0<=I7 a d c then A (.i .n (I7 a d c))else O
 |[],c,b,a=>by
  show Eu b a=_
  cases Eu b a with
  |some e=>rfl
  |none=>show O=if(0:K)<=-1 then _ else _;rw[Ad (by grind)]
 |f::i,c,b,a=>by
  unfold On;rw[fr i (c+1)];rw[Yv];by_cases h:(Eu b f.Bk).isSome=L;.grind
  .rw[Ad h,Tt]
   cases j:Eu b a with
   |some e=>rfl
   |none=>
    by_cases g:f.Bk=a;.rw[Af g,Af g];show A _=if 0<=(c:K)then _ else _;rw[Af (by omega)]
    .grind
def XQ(b:C _)(a:B0):Eu (C9 b) a=if 0<=CO b a then A (.i .n (CO b a))else O:=fr b 0 [] a
def cf(a:Ab):A2 158 [.S (Ab.c a)] (.b (Au (0<a.A6.l))):=BP B B B ⟨G.Az.V (.I 5 (Ab.c a)),by
 have b:=E6 .n a.A6.l 0;have c:Au ((0:K)<a.A6.l)=Au (0<a.A6.l):=by grind
 rw[c]at b;rw[vW];simp only[QY, *]⟩
def L1(d:K)(c:C K)(a:D):F:=.S [.i .n d,.CZ (c.m λb=>[.i .u8 b]),.f (Ar a) []]
def MA:C (B0×F):=[([97,100,100],L1 2 [1] 211),([115,117,98],L1 2 [1] 213),([109,117,108],L1 2 [1] 214),([100,105,118],L1 2 [1] 215),([109,111,100],L1 2 [1] 218),([110,101,103],L1 1 [1] 220),([108,116],L1 2 [1] 221),([108,101],L1 2 [1] 223),([101,113],L1 2 [1,2] 224),([110,111,116],L1 1 [2] 225)]
def pe:((xx W9 165 [] G.Az).b λa=>(Dq a.2 a.1).map Prod.fst)=A (Kk MA):=by rw[vY];kernel_rfl
def il:A2 165 [] (Kk MA):=by
 have a:=pe
 cases b:xx _ _ _ _ with
 |none=>rw[b]at a;cases a
 |some d=>
  rw[b]at a
  let⟨g,_⟩:=d
  have a:(Dq _ _).map _=A _:=a
  cases c:Dq _ _ with
  |none=>rw[c]at a;cases a
  |some e=>
   let⟨f,_⟩:=e
   rw[c]at a;cases a
   exact FN B B b c
theorem rq(b:G)(a:C (B0×F)):Ql b (Kk a)=A (RK (a.m λc=>.s c.1) (a.m (·.2))):=rfl
def Uy(e:Ak)(c:F)(d:G)(a:C (B0×F))(b:B0):E7 Ac [2] c e d [Kk a,.s b]=A (An e (.AC [(Eu a b).g c,.b (Eu a b).isSome]) ((Eu a b).g c)):=Yj (rq d a) (g0 a) b
def dP(b:B0):K:=match Eu MA b with|some (.S (.i .n a::_))=>a|_=>0
def AbX(b:B0):dP b=DZ b:=by
 unfold dP DZ MA UH;simp only[Eu,Ait,Ai6,Ai7];by_cases c:b=[97,100,100];.subst c;rfl
 by_cases e:b=[115,117,98];.subst e;rfl
 by_cases f:b=[109,117,108];.subst f;rfl
 by_cases g:b=[100,105,118];.subst g;rfl
 by_cases h:b=[109,111,100];.subst h;rfl
 by_cases i:b=[110,101,103];.subst i;rfl
 by_cases j:b=[108,116];.subst j;rfl
 by_cases k:b=[108,101];.subst k;rfl
 by_cases l:b=[101,113];.subst l;rfl
 by_cases d:b=[110,111,116];.subst d;rfl
 rw[Ad (λa=>c a.s),Ad (λa=>e a.s),Ad (λa=>f a.s),Ad (λa=>g a.s),Ad (λa=>h a.s),Ad (λa=>i a.s),Ad (λa=>j a.s),Ad (λa=>k a.s),Ad (λa=>l a.s),Ad (λa=>d a.s),Ad (by grind)]
def fq:∀{d:C _}{a:B0}{c:F},Eu d a=A c->(a,c)∈d
 |(f,h)::g,a,c,b=>by
  unfold Eu at b;by_cases e:f=a;.grind
  .rw[Ad e]at b;exact Ai1 _ (fq b)
def AbZ{f:B0}{b:F}(a:Eu MA f=A b):∃e d c,b=L1 e d c:=by have a:=fq a;simp only[MA,Ait,Ai6,Ai7,Aj2]at a;rcases a with⟨_,rfl⟩|⟨_,rfl⟩|⟨_,rfl⟩|⟨_,rfl⟩|⟨_,rfl⟩|⟨_,rfl⟩|⟨_,rfl⟩|⟨_,rfl⟩|⟨_,rfl⟩|⟨_,rfl⟩<;>grind
def uf(a:B0):A2 240 [.s a] (.n (DZ a)):=BP B B B ⟨G.Az,by
 have c:=Uy Ac (.S [.n 0,.sn,.fn]) G.Az MA a;have d:De 0 [(Eu MA a).g (.S [.n 0,.sn,.fn])]=A (.n (DZ a)):=by
  rw[<-AbX]
  unfold dP
  cases b:Eu MA a with
  |none=>rfl
  |some h=>obtain⟨g,f,e,rfl⟩:=AbZ b;rfl
 rw[wA];simp only[QY,il.H B,Bool.cond_false, *]⟩
def B_(a b c d:K)(e:Ak):C F:=[.n a,.n b,.n c,.n d,.b e]
def Xi{b:G}{c:C F}{d:D}{a:F}(f:d+1<=5)(g:a.I=[a])(e:FX a=L):A1 1 (b.V (.I 5 c)) [.p b.next d,a]=A (Ax,b.V (.I 5 (DJ d [a] c))):=by
 show An _ _ O=_;rw[g];have:Ct [a]=L:=by show An _ _ Ac=L;rw[e];rfl
 rw[this,L8 (a:=5) (i:=c) (by rw[I8];rfl),Af f,Ad (by grind)];show A (Ax,(b.V (.I 5 c)).set b.next _)=_;rw[W_]
def QW:(∀{i:Type}(d:G)(b c f g h:K)(e:Ak)(a:F×G->Aj i),(A1 1 (d.V (.I 5 (B_ b c f g e))) [.p d.next 0,.n h]).b a=a (Ax,d.V (.I 5 (B_ h c f g e))))/\
 (∀{i:Type}(d:G)(b c f g h:K)(e:Ak)(a:F×G->Aj i),(A1 1 (d.V (.I 5 (B_ b c f g e))) [.p d.next 1,.n h]).b a=a (Ax,d.V (.I 5 (B_ b h f g e))))/\
 (∀{i:Type}(d:G)(b c f g h:K)(e:Ak)(a:F×G->Aj i),(A1 1 (d.V (.I 5 (B_ b c f g e))) [.p d.next 2,.n h]).b a=a (Ax,d.V (.I 5 (B_ b c h g e))))/\
 (∀{i:Type}(d:G)(b c f g h:K)(e:Ak)(a:F×G->Aj i),(A1 1 (d.V (.I 5 (B_ b c f g e))) [.p d.next 3,.n h]).b a=a (Ax,d.V (.I 5 (B_ b c f h e))))/\
 (∀{i:Type}(d:G)(b c f g:K)(e h:Ak)(a:F×G->Aj i),(A1 1 (d.V (.I 5 (B_ b c f g e))) [.p d.next 4,.b h]).b a=a (Ax,d.V (.I 5 (B_ b c f g h))))/\
 (∀{i:Type}(d:G)(j:C F)(b c f g:K)(e:Ak)(a:F×G->Aj i),(A1 5 (d.V (.I 5 j)) [.p d.next 0,.S (B_ b c f g e)]).b a=a (Ax,d.V (.I 5 (B_ b c f g e))))/\
 (∀{i:Type}(b c f g:K)(e:Ak)(a:F->Aj i),((B_ b c f g e)[0]?).b a=a (.n b))/\
 (∀{i:Type}(b c:K)(a:F->Aj i),(BE [(.n 0),(.n 0),(.n 0),(.n 0),(.b Ac)] [(0,1),(1,1)] [(.n b),(.n c)]).b a=a (.S (B_ b c 0 0 Ac)))/\
 (∀{i:Type}(b c:K)(e:Ak)(a:F->Aj i),(BE [(.n 0),(.n 0),(.n 0),(.n 0),(.b Ac)] [(0,1),(1,1),(4,1)] [(.n b),(.n c),(.b e)]).b a=a (.S (B_ b c 0 0 e))):=
 ⟨λd b c f g h e a=>H (Xi (by grind) B B) a,λd b c f g h e a=>H (Xi (by grind) B B) a,λd b c f g h e a=>H (Xi (by grind) B B) a,λd b c f g h e a=>H (Xi (by grind) B B) a,λd b c f g e h a=>H (Xi (by grind) B B) a,λd j b c f g e a=>H (FL B B) a,λ_ _ _ _ _ _=>B,λ_ _ _=>B,λ_ _ _ _=>B⟩
def TM(f:G)(a b c d:K)(e:Ak):jj W9 204 1 [.p f.next 0] (f.V (.I 5 (B_ a b c d e)))=A (.AC [.S (B_ a b c d e),.b L],f.V (.I 5 (B_ a b c d e))):=by rw[Pj.2.1];simp only[↓Q,↓QW]
def Jl(b:C Ab)(c:AD):C F×Ak:=match b[(CO b c.Bk).n]?with
 |some a=>if 0<=CO b c.Bk/\(Au (0<a.A6.l)=Au (c.op=9))then(B_ a.Ap a.Bs.l 0 0 L,L)else(B_ 1 1 0 0 Ac,Ac)
 |none=>(B_ 1 1 0 0 Ac,Ac)
theorem dY(b:G)(a:C Ab)(c:C (B0×F)):AW b [.pi ((Ei a c).d 0)]=A (Z Ab.c a):=rfl
theorem ZK(b:G)(c:C Ab)(a:C (B0×F)):AW b [.pi ((Ei c a).d 1)]=A (Kk a):=rfl
theorem pcq(a:C _)(b:C _):((Ei a b).d 0)[0]? =A (Z Ab.c a):=rfl
def qi(c:C Ab)(a:AD)(q:c.l<1000000000)(e:G):
  jj W9 204 4 [.b L,.p e.next 0,.pi (Ei c (C9 c)),.i .u8 a.op,.p (e.V (.I 4 (AD.c a))).next 0] ((e.V (.I 4 (AD.c a))).V (.I 5 (B_ 1 1 0 0 Ac)))=
   A (.AC [.S (Jl c a).1,.b (Jl c a).2],(e.V (.I 4 (AD.c a))).V (.I 5 (Jl c a).1)):=by
 generalize o:(e.V _).V (.I 5 (B_ 1 1 0 0 Ac))=l
 have d:=Uy L (.i .n 0) l (C9 c) a.Bk
 rw[XQ]at d
 rw[Pj.2.2.2.1]
 subst o
 unfold Jl
 rcases RT c _ with g|⟨f,b,g,k,_⟩
 .rw[g]at d⊢;have d:E7 _ _ _ _ _ _=A (.AC [.i .n 0,.b Ac]):=d;have p:(match c[Int.toNat (-1)]?with
   |some b=>if 0<=-1/\(Au (0<b.A6.l)=Au (a.op=9))then(B_ b.Ap b.Bs.l 0 0 L,L)else(B_ 1 1 0 0 Ac,Ac)
   |none=>(B_ 1 1 0 0 Ac,Ac))=(B_ 1 1 0 0 Ac,Ac):=by grind
  rw[p];simp only[QY,QW,ZK _ _ _,dY _ _ _,d,VA]
 .have h:0<=(f:K):=by omega
  rw[g,Af h]at d;rw[g,Aif,k];have d:E7 Ac [2] (.i .n 0) L ((e.V (.I 4 (AD.c a))).V (.I 5 (B_ 1 1 0 0 Ac))) [Kk (C9 c),.s a.Bk]=A (.AC [.i .n f,.b L]):=d;have j:=cf b;have i:=Cz .u8 a.op 9;show _=A (F.AC [.S (if 0<=(f:K)/\(Au (0<b.A6.l)=Au (a.op=9))then(B_ b.Ap b.Bs.l 0 0 L,L)else(B_ 1 1 0 0 Ac,Ac)).1,.b (if 0<=(f:K)/\(Au (0<b.A6.l)=Au (a.op=9))then(B_ b.Ap b.Bs.l 0 0 L,L)else(B_ 1 1 0 0 Ac,Ac)).2],(e.V (.I 4 (AD.c a))).V (.I 5 (if 0<=(f:K)/\(Au (0<b.A6.l)=Au (a.op=9))then(B_ b.Ap b.Bs.l 0 0 L,L)else(B_ 1 1 0 0 Ac,Ac)).1));generalize Au (a.op=9)=m at i⊢;generalize Au (0<b.A6.l)=n at j⊢;cases m<;>cases n<;>simp only[↓Q,↓QD,↓QW,↓H (ZK _ _ _),↓H (dY _ _ _),↓H d,↓j.H B,↓H (Da k),↓H i,↓VA,QS,pcq,Pj.2.2.2.2.1,h,QB,and_self,and_true,and_false,↓reduceIte]
def E5(b:C Ab)(a:AD):C F×Ak:=
 if a.op=1 then(B_ 1 1 (-1000000000) 1000000000 Ac,L)
 else if a.op=2 then(B_ 1 1 0 1 Ac,L)
 else if a.op=4 then(B_ (DZ a.Bk) 1 0 0 L,Au (0<DZ a.Bk))
 else if a.op=5 then(B_ 2 2 0 0 Ac,L)
 else if a.op=6\/a.op=7\/a.op=12 then(B_ 2 1 0 0 Ac,L)
 else if a.op=11 then(B_ 3 0 0 0 Ac,L)
 else if a.op=8\/a.op=9 then Jl b a
 else if a.op=3\/a.op=10\/a.op=13\/a.op=14 then(B_ 1 1 0 0 Ac,L)
 else(B_ 1 1 0 0 Ac,Ac)
def AdR(f:C Ab)(a:AD)(Y:f.l<1000000000):xx W9 204 [.pi (Ei f (C9 f)),.S (AD.c a)] G.Az=A (.AC [.S (E5 f a).1,.b (E5 f a).2],(G.Az.V (.I 4 (AD.c a))).V (.I 5 (E5 f a).1)):=by
 have n:=qi f a Y G.Az;have X:=uf a.Bk;have g:∀(b:G)(n:F->G->R),bl (.p b.next 0) (b.V (.I 5 [(.n 0),(.n 0),(.n 0),(.n 0),(.b Ac)])) n=n (.p b.next 0) (b.V (.I 5 (B_ 0 0 0 0 Ac))):=λ_ _=>B;have E:∀b:G,jj W9 204 3 [.b L,.p b.next 0] (b.V (.I 5 (B_ 1 1 0 0 Ac)))=A (.AC [.S (B_ 1 1 0 0 Ac),.b L],b.V (.I 5 (B_ 1 1 0 0 Ac))):=λb=>by rw[Pj.2.2.2.2.2];simp only[↓Q,TM]
 have W:∀b:G,jj W9 204 3 [.b Ac,.p b.next 0] (b.V (.I 5 (B_ 1 1 0 0 Ac)))=A (.AC [.S (B_ 1 1 0 0 Ac),.b Ac],b.V (.I 5 (B_ 1 1 0 0 Ac))):=λb=>by rw[Pj.2.2.2.2.2];simp only[↓Q,↓QW]
 have I:∀(Z xa xb:F)(b:G),jj W9 204 5 [.b L,Z,xa,xb,.p b.next 0] (b.V (.I 5 (B_ 1 1 0 0 Ac)))=A (.AC [.S (B_ 2 1 0 0 Ac),.b L],b.V (.I 5 (B_ 2 1 0 0 Ac))):=λ_ _ _ b=>by rw[Pj.2.2.1];simp only[↓Q,↓QW,TM]
 have c:=Cz .u8 a.op 1;have d:=Cz .u8 a.op 2;have i:=Cz .u8 a.op 3;have e:=Cz .u8 a.op 4;have j:=Cz .u8 a.op 5;have m:=Cz .u8 a.op 6;have u:=Cz .u8 a.op 7;have v:=Cz .u8 a.op 8;have z:=Cz .u8 a.op 9;have h:=Cz .u8 a.op 10;have k:=Cz .u8 a.op 11;have y:=Cz .u8 a.op 12;have l:=Cz .u8 a.op 13;have t:=Cz .u8 a.op 14;unfold E5;rw[Pj.1];by_cases o:a.op=1;.rw[Be o]at c;rw[Af o];simp only[↓g,↓Q,↓QD,↓QW,↓H c,TM]
 rw[Ba o]at c;rw[Ad o];by_cases q:a.op=2;.rw[Be q]at d;rw[Af q];simp only[↓g,↓Q,↓QD,↓QW,↓H c,↓H d,TM]
 rw[Ba q]at d;rw[Ad q];by_cases r:a.op=4;.rw[Be r]at e;rw[Af r];have V:=E6 .n (DZ a.Bk) 0;simp only[↓g,↓Q,↓QD,↓QW,↓H c,↓H d,↓H e,↓X.H B,↓H V]
 rw[Ba r]at e;rw[Ad r];by_cases s:a.op=5;.rw[Be s]at j;rw[Af s];simp only[↓g,↓Q,↓QD,↓QW,↓H c,↓H d,↓H e,↓H j,TM]
 rw[Ba s]at j;rw[Ad s];by_cases T:a.op=6;.rw[Be T]at m;rw[Af (by grind)];simp only[↓g,↓Q,↓QD,↓QW,↓H c,↓H d,↓H e,↓H j,↓H m,I]
 rw[Ba T]at m;by_cases U:a.op=7;.rw[Be U]at u;rw[Af (by grind)];simp only[↓g,↓Q,↓QD,↓QW,↓H c,↓H d,↓H e,↓H j,↓H m,↓H u,I]
 rw[Ba U]at u;by_cases M:a.op=12;.rw[Be M]at y;rw[Af (by grind)];simp only[↓g,↓Q,↓QD,↓QW,↓H c,↓H d,↓H e,↓H j,↓H m,↓H u,↓H y,I]
 rw[Ba M]at y;rw[Ad (by grind)];simp only[QY,QW, *];rw[Pj.2.2.1];by_cases p:a.op=11;.rw[Be p]at k;rw[Af p];simp only[↓Q,↓QW,↓H k,TM]
 rw[Ba p]at k;rw[Ad p];by_cases w:a.op=8;.rw[Be w]at v;rw[Af (Or.inl w)];simp only[↓Q,↓H k,↓H v,n]
 rw[Ba w]at v;by_cases x:a.op=9;.rw[Be x]at z;rw[Af (Or.inr x)];simp only[↓Q,↓H k,↓H v,↓H z,n]
 rw[Ba x]at z;rw[Ad (by grind)];simp only[QY, *];rw[Pj.2.2.2.1];by_cases S:a.op=3;.rw[Be S]at i;rw[Af (by grind)];simp only[QY, *]
 rw[Ba S]at i;by_cases J:a.op=10;.rw[Be J]at h;rw[Af (by grind)];simp only[↓Q,↓H i,↓H h,E]
 rw[Ba J]at h;by_cases N:a.op=13;.rw[Be N]at l;rw[Af (by grind)];simp only[↓Q,↓H i,↓H h,↓H l,E]
 rw[Ba N]at l;by_cases P:a.op=14;.rw[Be P]at t;rw[Af (by grind)];simp only[↓Q,↓H i,↓H h,↓H l,↓H t,E]
 rw[Ba P]at t;rw[Ad (by grind)];simp only[↓Q,↓H i,↓H h,↓H l,↓H t,W]
def Aeh(f:C _)(g:AD):∃a b c d e,(Jl f g).1=B_ a b c d e:=by
 unfold Jl;split;.split<;>grind
 .grind
def mg(a:C _)(b:AD):∃c d e f g,(E5 a b).1=B_ c d e f g:=by
 unfold E5;split; ·grind
 split; ·grind
 split; ·grind
 split; ·grind
 split; ·grind
 split; ·grind
 split; ·exact Aeh a b
 split<;>grind
def io(a:C Ab)(b:AD)(i:a.l<1000000000):A2 204 [.pi (Ei a (C9 a)),.S (AD.c b)] (.AC [.S (E5 a b).1,.b (E5 a b).2]):=by
 have c:=AdR a b i;let⟨d,e,f,g,h,j⟩:=mg a b
 rw[j]at c⊢;exact FN B B c (h:=(G.Az.V (.I 4 (AD.c b))).V (.I 5 (B_ d e f g h))) B
def qh(b:C Ab)(a:AD)(k:b.l<1000000000)(i:F)(d:G):jj W9 161 4 [.b L,i,.pi (Ei b (C9 b)),.p d.next 0] (d.V (.I 4 (AD.c a)))=A (.n (if 0<=CO b a.Bk then Qo b (CO b a.Bk)else 0),d.V (.I 4 (AD.c a))):=by
 have c:=Uy L (.n 0) (d.V (.I 4 (AD.c a))) (C9 b) a.Bk;rw[XQ]at c;rw[Si.2.2.1];rcases RT b a.Bk with e|⟨h,j,e,g,_⟩;.rw[e]at c⊢;have c:E7 Ac [2] (.n 0) L (d.V (.I 4 (AD.c a))) [Kk (C9 b),.s a.Bk]=A (.AC [.n 0,.b Ac]):=c;rw[Ad (by grind)];simp only[QY,ZK _ _ _,c]
 .have f:0<=(h:K):=by omega
  rw[e,Af f]at c;rw[e,Af f];have c:E7 Ac [2] (.n 0) L (d.V (.I 4 (AD.c a))) [Kk (C9 b),.s a.Bk]=A (.AC [.n h,.b L]):=c;simp only[QY,ZK _ _ _,c,Si.2.2.2.1];simp only[↓Q,↓QD,↓H (dY _ _ _),↓H (Da g)];unfold Qo;rw[Aif,g]
def Aeg(a:C Ab)(b:AD)(l:a.l<1000000000)(i:G){d c e f:K}{g j:Ak}(n:(E5 a b).1=B_ d c e f g)(m:(E5 a b).2=j):jj W9 161 2 [.pi (Ei a (C9 a)),.p i.next 0] (i.V (.I 4 (AD.c b)))=A (.n (if j=L then c else 0),(i.V (.I 4 (AD.c b))).V (.I 5 (B_ d c e f g))):=by
 have h:=io a b l
 rw[n,m]at h
 have o:(B_ d c e f g)[1]? =A (.n c):=B
 have k:[F.pi (Ei a (C9 a)),F.S (AD.c b)].all Mr=L:=B
 rw[Si.2.1]
 cases j with
 |false=>simp only[↓Q,↓QD,↓QW,↓h.H k,QB,↓reduceIte]
 |true=>simp only[↓Q,↓QD,↓QW,↓h.H k,Si.2.2.2.2,QB,↓reduceIte];simp only[QY, *]
def ik(b:C Ab)(a:AD)(t:b.l<1000000000):A2 161 [.pi (Ei b (C9 b)),.S (AD.c a)] (.n (C_ b a)):=BP B B B (by
 have d:=Cz .u8 a.op 8;have h:=Cz .u8 a.op 9;have m:=Cz .u8 a.op 4;have z:=λx=>qh b a t x G.Az;have E:=λ{e c f g:K}{i w:Ak}=> @Aeg b a t G.Az e c f g i w;rw[Si.1];by_cases o:a.op=8;.rw[Be o]at d;unfold C_;rw[Ad (by omega),Af (Or.inl o)];refine⟨G.Az.V (.I 4 (AD.c a)),?_⟩;simp only[QY,d];grind
 rw[Ba o]at d;by_cases p:a.op=9;.rw[Be p]at h;unfold C_;rw[Ad (by omega),Af (Or.inr p)];refine⟨G.Az.V (.I 4 (AD.c a)),?_⟩;simp only[QY,d,h];grind
 rw[Ba p]at h;by_cases k:a.op=4;.rw[Be k]at m;unfold C_;rw[Ad (by omega),Ad (by omega),Af (by omega)];refine⟨G.Az.V (.I 4 (AD.c a)),?_⟩;simp only[QY,d,h,Si.2.2.1];simp only[QY,m]
 rw[Ba k]at m;have v:∃e c f g i,(E5 b a).1=B_ e c f g i/\C_ b a=if(E5 b a).2=L then c else 0:=by
  unfold E5 C_;by_cases j:a.op=1;.rw[Af j,Ad (by omega),Ad (by omega),Af (by omega)];grind
  by_cases n:a.op=2;.rw[Ad j,Af n,Ad (by omega),Ad (by omega),Af (by omega)];grind
  by_cases l:a.op=5;.rw[Ad j,Ad n,Ad k,Af l,Af l];grind
  rw[Ad j,Ad n,Ad k,Ad l,Ad l];by_cases s:a.op=6\/a.op=7\/a.op=12;.rw[Af s,Ad (by omega),Af (by omega)];grind
  rw[Ad s];by_cases q:a.op=11;.rw[Af q,Ad (by omega),Ad (by omega)];grind
  rw[Ad q,Ad (show¬(a.op=8\/a.op=9) by omega),Ad (show¬(a.op=8\/a.op=9) by omega)];by_cases r:a.op=3\/a.op=10\/a.op=13\/a.op=14;.rw[Af r,Af (by omega)];grind
  .rw[Ad r,Ad (by omega)];grind
 let⟨e,c,f,g,i,y,u⟩:=v
 rw[u];refine⟨(G.Az.V (.I 4 (AD.c a))).V (.I 5 (B_ e c f g i)),?_⟩;simp only[QY,d,h,Si.2.2.1];simp only[QY,m];grind)
def ue(c:C _)(b:Ab)(a:AH)(e:D)(y:CA c)(q:b.CA)(M:1<=b.Ap)(I:e<=b.Ay.l):A2 239 [.pi (Ei c (C9 c)),.S (Ab.c b),.S (AH.c a),.n e] (.b (LM c b a e)):=BP B B B ⟨(G.Az.V (.I 5 (Ab.c b))).V (.I 2 (AH.c a)),by
 have J:=q.1;have N:=q.2.2.2.2.1.2;have h:=E1 .n a.Ao (-1);have j:=K7 .n a.Ao e;have f:=E1 .n a.Aw 0;have g:=FW .n a.Ao (-1);have r:=E1 .n a.Aw b.Ap;unfold LM;rw[c0.1];by_cases o:a.Ao< -1
 .rw[Be o]at h;rw[Ad (by omega)];have:BY a.Ao 0 (e-1)=Ac:=by unfold BY;rw[Ba (by omega)];rfl
  rw[this];simp only[QY,QB, *]
 rw[Ba o]at h;by_cases p:e<=a.Ao;.rw[Be p]at j;rw[Ad (by omega)];unfold BY;rw[Ba (show¬a.Ao<=e-1 by omega),Bool.and_false];simp only[QY,h,j,QB]
 rw[Ba p]at j;by_cases m:a.Ao= -1
 .rw[Be m]at g;have g:A7 .neq [.n a.Ao,.n (-1)]=A (.b Ac):=g;rw[Af m];by_cases k:a.Aw<0
  .rw[Be k]at f;have:BY a.Aw 0 (b.Ap-1)=Ac:=by unfold BY;rw[Ba (by omega)];rfl
   rw[this];simp only[QY,h,j,f]
  .rw[Ba k]at f;have:BY a.Aw 0 (b.Ap-1)=Au (a.Aw<b.Ap):=by
    unfold BY;rw[Be (show 0<=a.Aw by omega),Ai5];by_cases H:a.Aw<b.Ap;.grind
    .grind
   rw[this];simp only[QY,h,j,f,g,c0.2];simp only[QY,r]
 rw[Ba m]at g;have g:A7 .neq [.n a.Ao,.n (-1)]=A (.b L):=g;rw[Ad m];obtain⟨n,x⟩:∃n:D,a.Ao=n:=⟨a.Ao.n,by omega⟩;let⟨d,z,_⟩:=Eh (b:=b.Ay) (a:=n) (by omega)
 have t:AZ 4 [Z AD.c b.Ay,.n a.Ao]=A (.pi d.c):=by rw[x];exact Gq z
 have E:b.Ay[a.Ao.n]? =A d:=by grind
 have v:BY a.Ao 0 (e-1)=L:=by unfold BY;rw[Be (show 0<=a.Ao by omega),Be (by omega)];rfl
 rw[E,v,Ai5];show _=A (F.b (BY a.Aw 0 (C_ c d-1)),_);have u:=ik c d (by have:=y.1;omega);have w:[F.pi (Ei c (C9 c)),F.S (AD.c d)].all Mr=L:=B;have s:=E1 .n a.Aw (C_ c d);by_cases k:a.Aw<0
 .rw[Be k]at f;have:BY a.Aw 0 (C_ c d-1)=Ac:=by unfold BY;rw[Ba (by omega)];rfl
  rw[this];simp only[QY,h,j,f]
 .rw[Ba k]at f;have:BY a.Aw 0 (C_ c d-1)=Au (a.Aw<C_ c d):=by
   unfold BY;rw[Be (show 0<=a.Aw by omega),Ai5];by_cases H:a.Aw<C_ c d;.grind
   .grind
  rw[this];simp only[QY,h,j,f,g,t,u.H w,c0.2];simp only[QY,s]⟩
variable{a:D}
def h0{b:C _}{c:AH}(d:b[a]? =A c):AZ 2 [Z AH.c b,.n a]=A (.pi c.c):=Fi d B
def U9(c:G->Prop)(g:Aa)(f:C F)(h:C AH)(e:AH->Ak):Prop:=∀d∈h,∀a,c a->∃b,W9 g (.S (AH.c d)::f) a=A (.b (e d),b)/\c b
def RU(a:AH->Ak):C AH->D->K
 |[],_=> -1
 |d::c,b=>if a d=L then b else RU a c (b+1)
def hM(a:AH->Ak):∀(c:C _)(b:D),Au (0<=RU a c b)=c.any a
 |[],_=>rfl
 |e::d,b=>by
  rw[Aj7,<-hM a d _]
  unfold RU
  cases a e with
  |true=>rw[Af B,Be (by omega)];rfl
  |false=>rw[Ad (by grind)];cases d<;>rfl
def Aaj{g:G->Prop}{k:Aa}{j:C F}{b:C AH}{d:AH->Ak}(u:U9 g k j b d)(y:b.l<1000000000):∀e a c,b.l-a=e->a<=b.l->g c->∃o,jj W9 162 2 [.n b.l,.f k j,Z AH.c b,.n a] c=A (.n (RU d (b.d a) a),o)/\g o:=by
 intro e
 induction e with
 |zero=>
  intro a c v w m;have h:¬(a:K)<b.l:=by omega
  refine⟨c,?_,m⟩;rw[Ue.2.2.1];simp only[↓Q,↓QC,h,↓reduceIte];rw[Ue.2.1,Aiq (by omega)];rfl
 |succ e z=>
  intro a c v w m
  have h:(a:K)<b.l:=by omega
  let⟨f,n,x⟩:=Eh (b:=b) (a:=a) (by omega)
  let⟨p,s,t⟩:=u f (Ail n) c m
  have r:Du W9 (.f k j) [.S (AH.c f)] c=A (.b (d f),p):=s
  rw[Ue.2.2.1]
  simp only[↓Q,↓QC,h,↓reduceIte]
  rw[Ue.2.2.2.1,x]
  unfold RU
  cases q:d f with
  |true=>rw[q]at r;refine⟨p,?_,t⟩;simp only[QY,H (h0 n),reduceIte, *]
  |false=>rw[q]at r;simp only[QY,H (h0 n),Ue.2.2.2.2,QB, *];simp only[↓Q,↓H (BF (a:=a) (by omega))];grind
def aG{e:G->Prop}{g:Aa}{f:C F}{a:C AH}{d:AH->Ak}(l:U9 e g f a d)(m:a.l<1000000000)(c:G)(k:e c):∃b,W9 (Ar 117) [Z AH.c a,.f g f] c=A (.b (a.any d),b)/\e b:=by
 let⟨b,h,j⟩:=Aaj l m a.l 0 c (by omega) (by omega) k
 rw[AiE]at h;have n:W9 (Ar 162) [Z AH.c a,.f g f] c=A (.n (RU d a 0),b):=Bd B B (by rw[Ue.1];simp only[↓Q];grind)
 have i:=K7 .n (RU d a 0) 0;rw[hM]at i;refine⟨b,Bd B B ?_,j⟩;rw[vM];simp only[QY, *]
def ud(a:C _)(b:Ab)(d:AH)(c:D)(k:CA a)(i:b.CA)(m:1<=b.Ap)(l:c<=b.Ay.l):A2 238 [.S (AH.c d),.pi [.pi (Ei a (C9 a))],.pi (Ab.c b),.pi [.n c]] (.b (!LM a b d c)):=BP B B B ⟨G.Az.V (.I 2 (AH.c d)),by have f:=ue a b d c k i m l;have j:[F.pi (Ei a (C9 a)),.S (Ab.c b),.S (AH.c d),.n c].all Mr=L:=B;have p:([F.pi (Ei a (C9 a))])[0]? =A (.pi (Ei a (C9 a))):=B;have q:([F.n c])[0]? =A (.n c):=B;have r:∀{o:Type}(h:G)(g:C F)(e:F->Aj o),(AW h [.pi g]).b e=(g[0]?).b e:=λ_ _ _=>B;rw[wz];generalize LM a b d c=n at f⊢;cases n<;>simp only[QY,f.H j,QB, *]⟩
def aw(b c d:C F)(a:G):Prop:=Eg (a.N .h)=A (1,b)/\Eg (a.N (.o .h))=A (5,c)/\Eg (a.N (.i .h))=A (1,d)
def sC{b c d:C F}{a:G}{e:F}(s:Mr e=L)(p:b.all Im=L)(q:c.all Im=L)(r:d.all Im=L)(m:aw b c d a):∃f,F9 a [e,.p .h 0,.p (.o .h) 0,.p (.i .h) 0]=A ([e,.pi b,.pi c,.pi d],f)/\aw b c d f:=by
 let⟨n,t,u⟩:=m
 have g:=O5 s a;have h:=b9 (e:=0) n p;have k:Eg ((a.set .h (.rc 1 b)).N (.o .h))=A (5,c):=by rw[AY,Ad (by grind)];grind
 have i:=b9 (e:=0) k q;have l:Eg (((a.set .h (.rc 1 b)).set (.o .h) (.rc 5 c)).N (.i .h))=A (1,d):=by rw[AY,Ad (by grind),AY,Ad (by grind)];grind
 have j:=b9 (e:=0) l r;refine⟨((a.set .h (.rc 1 b)).set (.o .h) (.rc 5 c)).set (.i .h) (.rc 1 d),?_,?_,?_,?_⟩;.rw[TV,g];show(F9 a [.p .h 0,.p (.o .h) 0,.p (.i .h) 0]).b _=_;rw[TV,h];show((F9 (a.set .h (.rc 1 b)) [.p (.o .h) 0,.p (.i .h) 0]).b _).b _=_;rw[TV,i];show(((F9 ((a.set .h (.rc 1 b)).set (.o .h) (.rc 5 c)) [.p (.i .h) 0]).b _).b _).b _=_;rw[TV,j];rfl
 .rw[AY,Ad (by grind),AY,Ad (by grind),AY,Af B];rfl
 .rw[AY,Ad (by grind),AY,Af B];rfl
 .rw[AY,Af B];rfl
def AbO(a:AH->Ak):∀b:C _,(!(b.any λc=> !a c))=b.all a
 |[]=>rfl
 |e::d=>by grind
def cg(a:C Ab)(b:Ab)(e:C AH)(c:D)(s:CA a)(r:b.CA)(v:1<=b.Ap)(t:c<=b.Ay.l)(I:e.l<1000000):A2 203 [.pi (Ei a (C9 a)),.S (Ab.c b),Z AH.c e,.n c] (.b (GZ a b e c)):=BP B B B (by
 have n:U9 (aw [.pi (Ei a (C9 a))] (Ab.c b) [.n c]) (Ar 238) [.p .h 0,.p (.o .h) 0,.p (.i .h) 0] e (λf=> !LM a b f c):=by
  intro l J m q;let⟨h,i,p⟩:=sC (e:=.S (AH.c l)) B B B B q
  exact⟨h,ud a b l c s r v t m _ h i,p⟩
 let⟨h,i,_⟩:=aG n (by omega) (((G.Az.V (.I 1 [.pi (Ei a (C9 a))])).V (.I 5 (Ab.c b))).V (.I 1 [.n c])) ⟨B,B,B⟩
 have E:∀(d:G)(k:C _)(g:F->G->R),bl (.p d.next 0) (d.V (.I (BK (F.I (.pi k))) (F.I (.pi k)))) g=g (.p d.next 0) (d.V (.I 1 [.pi k])):=λ_ _ _=>B;have H:∀(d:G)(j:K)(g:F->G->R),bl (.p d.next 0) (d.V (.I (BK (F.I (.n j))) (F.I (.n j)))) g=g (.p d.next 0) (d.V (.I 1 [.n j])):=λ_ _ _=>B;have w:G.Az.next=.h:=B;have x:(G.Az.V (.I 1 [.pi (Ei a (C9 a))])).next=.o .h:=B
 have y:((G.Az.V (.I 1 [.pi (Ei a (C9 a))])).V (.I 5 (Ab.c b))).next=.i .h:=B
 have o:(!(e.any λf=> !LM a b f c))=GZ a b e c:=AbO _ e;rw[<-o];refine⟨h,?_⟩;rw[v6];simp only[↓E,↓H,↓QD];rw[w,x,y];generalize(e.any λf=> !LM a b f c)=z at i⊢;cases z<;>simp only[QY,QB, *])
def td(a:C Ab)(b:AD)(c:a.l<1000000000):A2 116 [Z Ab.c a,.S (AD.c b)] (.n (C_ a b)):=BP B B B ⟨G.Az.V (.I 4 (AD.c b)),by have d:=ic a c;have e:=ik a b c;have f:[F.pi (Ei a (C9 a)),F.S (AD.c b)].all Mr=L:=B;rw[vL];simp only[QY,d.H B,e.H f]⟩
def oT{h:B0}{b:D}(s:h[b]? =A a)(i:F)(g:G):jj W9 202 4 [.n (b:K),i,.s h] g=if(Oe a||(!Au ((b:K)=0)&&UI a))=L then jj W9 202 3 [.n (b:K),i,.s h] g else A (.b Ac,g):=by have t:=Yi (d:=.n) s;have c:=K7 .u8 (a:K) 97;have d:=Qm .u8 (a:K) 122;have e:=K7 .u8 (a:K) 48;have f:=Qm .u8 (a:K) 57;have q:=Cz .u8 (a:K) 46;have r:=Cz .n (b:K) 0;rw[jS]at c d e f;unfold Oe UI;rw[Ul.2.2.2.1];generalize Au ((a:K)<97)=j at c⊢;generalize Au ((122:K)<a)=l at d⊢;generalize Au ((a:K)<48)=m at e⊢;generalize Au ((57:K)<a)=n at f⊢;generalize Au ((a:K)=46)=o at q⊢;generalize Au ((b:K)=0)=p at r⊢;cases j<;>cases l<;>cases m<;>cases n<;>cases o<;>cases p<;>simp only[AiB,Ai2]at c d e f<;>simp only[Q,ZR, *]<;>simp only[QB,↓reduceIte]
def Sz:B0->D->Ak
 |[],_=>L
 |a::c,b=>(Oe a||(!Au ((b:K)=0)&&UI a))&&Sz c (b+1)
def kw:∀(a:B0)(b:D),Sz a (b+1)=a.all Kn
 |[],_=>rfl
 |c::a,b=>by unfold Sz Kn;rw[kw a,AiK,Ba (by omega)];rfl
def Aak(a:B0)(q:a.l<1000000000)(e:G):∀c b,a.l-b=c->b<=a.l->jj W9 202 2 [.n a.l,.n b,.s a] e=A (.b (Sz (a.d b) b&&(Au ((0:K)<a.l)&&Au ((a.l:K)<=24))),e):=by
 intro c
 induction c with
 |zero=>
  intro b k m;have d:¬(b:K)<a.l:=by omega
  have h:=E6 .n (a.l:K) 0;have j:=Qm .n (a.l:K) 24;rw[Ul.2.2.1];simp only[↓Q,↓QC,d,↓reduceIte];rw[Ul.2.1,Aiq (by omega)];show _=A (F.b (L&&_),e);generalize Au ((0:K)<a.l)=g at h⊢;generalize Au ((a.l:K)<=24)=p at j⊢;cases g<;>simp only[QY,QB, *]
 |succ c r=>
  intro b k m;have d:(b:K)<a.l:=by omega
  let⟨f,n,o⟩:=Eh (b:=a) (a:=b) (by omega)
  rw[Ul.2.2.1];simp only[↓Q,↓QC,d,↓reduceIte];rw[oT n,o];unfold Sz;cases Oe f||(!Au ((b:K)=0)&&UI f)
  .rfl
  .rw[Af B,Ai5,Ul.2.2.2.2];simp only[↓Q,↓H (BF (a:=b) (by omega))];grind
def tQ(a:B0)(e:a.l<1000000000):A2 202 [.s a] (.b (N4 a)):=BP B B B ⟨G.Az,by
 have f:=Aak a e G.Az a.l 0 (by omega) (by omega);have d:(Sz (a.d 0) 0&&(Au ((0:K)<a.l)&&Au ((a.l:K)<=24)))=N4 a:=by
  cases a with
  |nil=>rfl
  |cons b c=>rw[jp,AiE];unfold Sz;rw[kw,Be (show(0:K)<(b::c).l by simp only[AiD];omega),AiK];unfold Kn;cases Oe b<;>cases Au (((b::c).l:K)<=24)<;>simp
 rw[d]at f;rw[Ul.1];simp only[↓Q];grind⟩
structure Jt{v:Type}(t:G->Prop)(q:F)(z:D)(l:C v)(w:v->F)(y:G->C F->Aj F):Prop where
 AX:Ea [q]=A (.n l.l)
 bp:∀(b:D) d,l[b]? =A d->∃c,AZ z [q,.n (b:K)]=A c/\∀a,t a->y a [c]=A (w d)
theorem Jt.Z{v:Type}{t:G->Prop}{b:v->C F}{z:D}(l:C v){w:v->F}{y:G->C F->Aj F}(f:∀a,(b a).l=z)(d:∀c a,y c [.pi (b a)]=A (w a)):Jt t (Z b l) z l w y where
 AX:=Ek b l
 bp g a e:=⟨_,Fi e (f a),λc _=>d c a⟩
def NU{v:Type}(t:G->Prop)(r:Aa)(s:C F)(l:C v)(w:v->F)(u:v->Ak):Prop:=∀c∈l,∀a,t a->∃b,W9 r (w c::s) a=A (.b (u c),b)/\t b
def JD{v:Type}(u:v->Ak):C v->D->K
 |[],_=> -1
 |c::b,a=>if u c=L then a else JD u b (a+1)
theorem VO{v:Type}(u:v->Ak):∀(l:C _)(a:D),Au (0<=JD u l a)=l.any u
 |[],_=>rfl
 |c::b,a=>by
  rw[Aj7,<-VO u b _]
  unfold JD
  cases u c with
  |true=>rw[Af B,Be (by omega)];rfl
  |false=>rw[Ad (by grind)];cases b<;>rfl
structure P2(k z:D)(y:G->C F->Aj F):Prop where
 ok:LO k
 im:KJ (Ar k)=L
 a:∀l g f,xx W9 k [l,g] f=(Ea [l]).b λn=>jj W9 k 2 [n,g,l,.n 0] f
 b:∀f,jj W9 k 1 [] f=A (.n (-1),f)
 c:∀i g l h f,jj W9 k 2 [i,g,l,h] f=(A7 .lss [h,i]).b λn=>Dw (jj W9 k 4 [h,i,g,l] f) (jj W9 k 1 [] f) n
 d:∀i g l h f,jj W9 k 4 [h,i,g,l] f=(AZ z [l,h]).b λm=>(y f [m]).b λo=>(Du W9 g [o] f).b λm=>Dw (A (h,m.2)) (jj W9 k 3 [h,i,g,l] m.2) m.1
 e:∀i g l h f,jj W9 k 3 [h,i,g,l] f=(A7 .add [h,.n 1]).b λn=>jj W9 k 2 [i,g,l,n] f
structure Tb(k j:D):Prop where
 ok:LO k
 im:KJ (Ar k)=L
 a:∀l b c,xx W9 k [l,b] c=(W9 (Ar j) [l,b] c).b λd=>(A7 .geq [d.1,.n 0]).b λe=>A (e,d.2)
section
variable{v:Type} {t:G->Prop} {r:Aa} {s:C F} {q:F} {l:C v} {w:v->F} {u:v->Ak} {k j z:D} {y:G->C F->Aj F}
theorem AaA(c:P2 k z y)(M:Jt t q z l w y)(E:NU t r s l w u)(R:l.l<1000000000):∀f a b,l.l-a=f->a<=l.l->t b->∃h,jj W9 k 2 [.n l.l,.f r s,q,.n a] b=A (.n (JD u (l.d a) a),h)/\t h:=by
 intro f
 induction f with
 |zero=>
  intro a b F G e;have g:¬(a:K)<l.l:=by omega
  refine⟨b,?_,e⟩;rw[c.c];simp only[↓Q,↓QC,g,↓reduceIte];rw[c.b,Aiq (by omega)];rfl
 |succ f S=>
  intro a b F G e
  have g:(a:K)<l.l:=by omega
  let⟨d,n,N⟩:=Eh (b:=l) (a:=a) (by omega)
  let⟨T,I,J⟩:=M.bp a d n
  let⟨m,o,x⟩:=E d (Ail n) b e
  have p:Du W9 (.f r s) [w d] b=A (.b (u d),m):=o
  rw[c.c]
  simp only[↓Q,↓QC,g,↓reduceIte]
  rw[c.d,N,H I,H (J b e),H p]
  unfold JD
  cases P:u d with
  |true=>exact⟨m,by simp only[↓Q,↓reduceIte],x⟩
  |false=>simp only[↓Q,QB,↓reduceIte];rw[c.e,H (BF (a:=a) (by omega))];grind
theorem jc(a:P2 k z y)(d:Jt t q z l w y)(g:NU t r s l w u)(h:l.l<1000000000)(c:G)(f:t c):∃b,W9 (Ar k) [q,.f r s] c=A (.n (JD u l 0),b)/\t b:=by
 let⟨b,i,e⟩:=AaA a d g h l.l 0 c (by omega) (by omega) f
 refine⟨b,Bd a.ok a.im ?_,e⟩;rw[a.a,H d.AX];grind
theorem NX(b:Tb k j)(d:P2 j z y)(m:Jt t q z l w y)(h:NU t r s l w u)(i:l.l<1000000000)(c:G)(g:t c):∃a,W9 (Ar k) [q,.f r s] c=A (.b (l.any u),a)/\t a:=by
 let⟨a,n,f⟩:=jc d m h i c g
 have e:=K7 .n (JD u l 0) 0;rw[VO]at e;refine⟨a,Bd b.ok b.im ?_,f⟩;rw[b.a];simp only[QY, *]
end
theorem ja:P2 67 1 AW:=⟨B,B,by intros;rw[Wd.1],by intros;rw[Wd.2.1],by intros;rw[Wd.2.2.1],by intros;rw[Wd.2.2.2.1],by intros;rw[Wd.2.2.2.2]⟩
theorem f0:Tb 32 67:=⟨B,B,by intros;rw[wD]⟩
theorem T8:P2 151 2 (Bf 2):=⟨B,B,by intros;rw[V8.1],by intros;rw[V8.2.1],by intros;rw[V8.2.2.1],by intros;rw[V8.2.2.2.1],by intros;rw[V8.2.2.2.2]⟩
theorem Vt:Tb 94 151:=⟨B,B,by intros;rw[wN]⟩
theorem u_:P2 159 1 AW:=⟨B,B,by intros;rw[V9.1],by intros;rw[V9.2.1],by intros;rw[V9.2.2.1],by intros;rw[V9.2.2.2.1],by intros;rw[V9.2.2.2.2]⟩
theorem pc:Tb 107 159:=⟨B,B,by intros;rw[vE]⟩
theorem va:P2 201 5 (Bf 5):=⟨B,B,by intros;rw[Wa.1],by intros;rw[Wa.2.1],by intros;rw[Wa.2.2.1],by intros;rw[Wa.2.2.2.1],by intros;rw[Wa.2.2.2.2]⟩
theorem pd:Tb 155 201:=⟨B,B,by intros;rw[vU]⟩
theorem vb:P2 232 2 (Bf 2):=⟨B,B,by intros;rw[Wb.1],by intros;rw[Wb.2.1],by intros;rw[Wb.2.2.1],by intros;rw[Wb.2.2.2.1],by intros;rw[Wb.2.2.2.2]⟩
theorem pf:Tb 188 232:=⟨B,B,by intros;rw[v3]⟩
def SC(b:C Ab)(d:Ab)(h:D)(a:AD):Ak:=match E5 b a with
 |([.i _ c,.i _ _,.i _ e,.i _ f,.b g],i)=>i&&(!(g != !Au (a.Bk=[]))&&(!Au (a.n<e)&&(!Au (f<a.n)&&(!(!Au ((a.AT.l:K)=c))&&GZ b d a.AT h))))
 |_=>Ac
def AbH{b:C _}{e:Ab}{i:D}{a:AD}{d j f g:K}{h:Ak}(c:(E5 b a).1=B_ d j f g h):SC b e i a=((E5 b a).2&&(!(h != !Au (a.Bk=[]))&&(!Au (a.n<f)&&(!Au (g<a.n)&&(!(!Au (a.AT.l=d))&&GZ b e a.AT i))))):=by
 unfold SC;generalize E5 b a=k at c⊢;let⟨l,_⟩:=k
 simp only at c;subst c;rfl
def QN(c:C Ab)(a:Ab):C AD->D->Ak
 |[],_=>L
 |d::e,b=>SC c a b d&&QN c a e (b+1)
def TA{b:C _}{c:AD}(d:b[a]? =A c):AZ 4 [Z AD.c b,.n a]=A (.pi c.c):=Fi d B
def oS(h:C Ab)(g:Ab){j:D}{a:AD}(n:g.Ay[j]? =A a)(v:CA h)(u:g.CA)(M:1<=g.Ap)(y:F)(b:G)(E:b.N .h=A (.I 5 (Ab.c g)))(w:Lv b .h):∃m,AR b m/\jj W9 157 4 [.n j,y,Z AD.c g.Ay,.pi (Ei h (C9 h)),.p .h 0] b=if SC h g j a=L then jj W9 157 3 [.n j,y,Z AD.c g.Ay,.pi (Ei h (C9 h)),.p .h 0] m else A (.b Ac,m):=by
 have P:=Ail n
 have N:=u.2.2.2.2.2 a P
 have xf:=(Aid.1 n).1
 let⟨d,i,e,f,c,x⟩:=mg h a
 have l:=io h a (by have:=v.1;omega)
 have t:=cg h g a.AT j v u M (by omega) N.1
 have J:=(Ke w (.I 4 (AD.c a))).t E
 have I:=(Ke (w.V (.I 4 (AD.c a))) (.I 5 (B_ d i e f c))).t J
 have o:((b.V (.I 4 (AD.c a))).V (.I 5 (B_ d i e f c))).AU .h 0 5=A (Ab.c g):=by rw[EA I,Af (by omega),Af B]
 have xg:Bf 5 ((b.V (.I 4 (AD.c a))).V (.I 5 (B_ d i e f c))) [.p .h 0]=A (.S (Ab.c g)):=by rw[Gk,o];rfl
 have z:=VF a.Bk []
 have p:Fx L [.b c,.b (!Au (a.Bk=[]))]=A (.b (c != !Au (a.Bk=[]))):=B
 have q:=E1 .n a.n e
 have r:=E6 .n a.n f
 have s:=FW .n a.AT.l d
 refine⟨(b.V (.I 4 (AD.c a))).V (.I 5 (B_ d i e f c)),(AR.V _ _).AQ (AR.V _ _),?_⟩
 rw[AbH x,Sh.2.2.2.2.1]
 rw[x]at l
 generalize(E5 h a).2=X at l⊢
 generalize(c != !Au (a.Bk=[]))=Y at p⊢
 generalize Au (a.n<e)=xa at q⊢
 generalize Au (f<a.n)=xb at r⊢
 generalize(!Au (a.AT.l=d))=xc at s⊢
 generalize GZ h g a.AT j=xd at t⊢
 have xh:∀(b:G)(k:F->G->R),bl (.p b.next 0) (b.V (.I 4 [.i .u8 0,.s [],.n 0,.sn])) k=k (.p b.next 0) (b.V (.I 4 [.i .u8 0,.s [],.n 0,.sn])):=λ_ _=>B
 have xe:∀(b:G)(k:F->G->R),bl (.p b.next 0) (b.V (.I 5 [(.n 0),(.n 0),(.n 0),(.n 0),(.b Ac)])) k=k (.p b.next 0) (b.V (.I 5 (B_ 0 0 0 0 Ac))):=λ_ _=>B
 have W:∀(b:G),A1 5 (b.V (.I 5 (B_ 0 0 0 0 Ac))) [.p b.next 0,.S (B_ d i e f c)]=A (Ax,b.V (.I 5 (B_ d i e f c))):=λb=>FL B B
 have S:(B_ d i e f c)[0]? =A (.n d):=B
 have T:(B_ d i e f c)[2]? =A (.n e):=B
 have U:(B_ d i e f c)[3]? =A (.n f):=B
 have V:(B_ d i e f c)[4]? =A (.b c):=B
 cases X
 rotate_left
 cases Y
 cases xa
 cases xb
 cases xc
 cases xd
 all_goals simp only[↓Q,↓QD,↓xe,↓H (W _),↓H S,↓H T,↓H U,↓H V,↓H (TA n),↓l.H B,↓t.H B,↓H o,↓H z,↓H p,↓H q,↓H r,↓H s,QB,↓reduceIte]
def Aai(d:C Ab)(a:Ab)(o:CA d)(g:a.CA)(q:1<=a.Ap):∀e b c,a.Ay.l-b=e->b<=a.Ay.l->c.N .h=A (.I 5 (Ab.c a))->Lv c .h->∃m,jj W9 157 2 [.n a.Ay.l,Z AD.c a.Ay,.pi (Ei d (C9 d)),.p .h 0,.n (b:K)] c=A (.b (QN d a (a.Ay.d b) b),m):=by
 have x:=g.1
 intro e
 induction e with
 |zero=>
  intro b c n p h j;have f:¬(b:K)<a.Ay.l:=by omega
  refine⟨c,?_⟩;rw[Sh.2.2.2.1];simp only[↓Q,↓QC,f,↓reduceIte];rw[Sh.2.2.1,Aiq (by omega)];rfl
 |succ e y=>
  intro b c n p h j
  have f:(b:K)<a.Ay.l:=by omega
  let⟨t,r,s⟩:=Eh (b:=a.Ay) (a:=b) (by omega)
  let⟨w,v,k⟩:=oS d a r o g q (.n (a.Ay.l:K)) c h j
  rw[Sh.2.2.2.1]
  simp only[↓Q,↓QC,f,↓reduceIte]
  rw[k,s]
  unfold QN
  cases u:SC d a b t with
  |false=>grind
  |true=>rw[Af B,Sh.2.2.2.2.2,Ai5];simp only[↓Q,↓H (BF (a:=b) (by omega))];grind
def Ny(b:C Ab)(a:Ab):Ak:=
 !(!N4 a.Bk)&&(!Au (a.Ap<1)&&(!(Au (0<a.A6.l)&& !Au ((a.A6.l:K)=a.Ap))&&(!(!GZ b a a.A6 a.Ay.l)&&(!(!GZ b a a.Bs a.Ay.l)&&QN b a a.Ay 0))))
def tx(b:C Ab)(a:Ab)(g:CA b)(c:a.CA):A2 157 [.pi (Ei b (C9 b)),.S (Ab.c a)] (.b (Ny b a)):=BP B B B (by
 have e:=tQ a.Bk (by have:=c.2.2.2.1;omega);have k:=cf a;have s:(G.Az.V (.I 5 (Ab.c a))).N .h=A (.I 5 (Ab.c a)):=B;have d:=E1 .n a.Ap 1;have j:=FW .n a.A6.l a.Ap;have q:∀f,f=G.Az.V (.I 5 (Ab.c a))->Bf 5 f [.p G.Az.next 0]=A (.S (Ab.c a)):=λf p=>by subst p;rfl
 unfold Ny;rw[Sh.1];by_cases h:1<=a.Ap
 .let⟨r,n⟩:=Aai b a g c h a.Ay.l 0 (G.Az.V (.I 5 (Ab.c a))) (by omega) (by omega) s (GD _ _)
  rw[AiE]at n;have o:jj W9 157 5 [.pi (Ei b (C9 b)),.p G.Az.next 0] (G.Az.V (.I 5 (Ab.c a)))=A (.b (QN b a a.Ay 0),r):=by rw[Sh.2.1];simp only[↓Q,↓QD];exact n
  have l:=cg b a a.A6 a.Ay.l g c h (C6 _) c.2.1;have m:=cg b a _ a.Ay.l g c h (C6 _) c.2.2.1;rw[Ba (show¬a.Ap<1 by omega)]at d⊢;generalize N4 a.Bk=i at e⊢;generalize Au (0<a.A6.l)=t at k⊢;generalize(!Au (a.A6.l=a.Ap))=u at j⊢;generalize GZ b a a.A6 a.Ay.l=v at l⊢;generalize GZ b a a.Bs a.Ay.l=w at m⊢;generalize QN b a a.Ay 0=x at o⊢;cases i<;>cases t<;>cases u<;>cases v<;>cases w<;>simp only[↓Q,↓QD,↓e.H B,↓k.H B,↓l.H B,↓m.H B,↓H d,↓H j,↓H (q _ B),o,QB]<;>grind
 .rw[Be (show a.Ap<1 by omega)]at d⊢;generalize N4 a.Bk=i at e⊢;cases i<;>simp only[↓Q,↓QD,↓e.H B,↓H d,QB]<;>grind)
def S6:C Ab->K->K
 |[],a=>a
 |b::c,a=>S6 c (a+b.Ay.l)
def Rj:C Ab->Ak->Ak
 |[],a=>a
 |b::c,a=>Rj c (a||Rk b)
def mY:∀(c:C Ab)(a:K),a<=S6 c a
 |[],a=>AjN a
 |b::d,a=>by unfold S6;have:=mY d (a+b.Ay.l);omega
def nd:∀a:C _,Rj a L=L
 |[]=>rfl
 |c::b=>by unfold Rj;rw[Bool.true_or];exact nd b
def lX:∀(c:C Ab)(a:K),a<=400->Ox c a= !(Au (400<S6 c a)||Rj c Ac)
 |[],a,f=>by show L= !(Au (400<a)||false);grind
 |b::d,a,f=>by
  unfold Ox S6 Rj;by_cases e:400<a+b.Ay.l;.have:=mY d (a+b.Ay.l);grind
  .rw[Ba e,lX d _ (by omega)]
   cases Rk b with
   |true=>show(Ac&&_)= !(_||Rj d L);rw[nd];simp
   |false=>rfl
def hy(a:B0):∀(c d:C Ab)(b:D),I7 a (c++d) b=if a∈c.m Ab.Bk then I7 a c b else I7 a d (b+c.l)
 |[],d,b=>by simp
 |f::c,d,b=>by
  rw[List.cons_append,Yv,Yv];by_cases e:f.Bk=a;.grind
  .rw[Ad e,hy a _ d _,Ad e];grind
def hA(b:B0):∀(c:C Ab)(a:D),b∈c.m Ab.Bk->I7 b c a<(a+c.l:D)
 |[],_,d=>by grind
 |e::g,a,d=>by
  unfold I7;by_cases f:e.Bk=b;.grind
  .rw[Ad f];rw[Ai9,Ait]at d;have:=hA b g (a+1) P;grind
def dG(g:C _):∀(d a:C Ab)(b:C (B0×F)),g=a++d->(∀f,(Eu b f).isSome=Au (f∈a.m Ab.Bk))->(On d a.l b).l<=b.l+d.l/\L0 g d a.l=Au ((On d a.l b).l=b.l+d.l)
 |[],a,b,_,_=>⟨C6 _,by show L=Au (b.l=b.l+0);simp⟩
 |c::d,a,b,j,i=>by
  have m:(a++[c]).l=a.l+1:=by simp
  have l:CO g c.Bk=a.l↔c.Bk∉a.m Ab.Bk:=by
   rw[j,CO,hy];by_cases e:c.Bk∈a.m Ab.Bk;.rw[Af e];have:=hA c.Bk a 0 e;grind
   .rw[Ad e,Yv,Af B];grind
  unfold On L0;have h:=i c.Bk;by_cases e:c.Bk∈a.m Ab.Bk;.rw[Be e]at h;rw[Af h];have k:=dG g d (a++[c]) b P P;grind
  .rw[Ba e]at h;rw[Ad (by grind)];have k:=dG g d (a++[c]) (b++[(c.Bk,.n a.l)]) P (λf=>by
    rw[Tt,AiZ]
    have:=i f
    cases n:Eu b f with
    |some o=>grind
    |none=>grind)
   grind
def kO(a:C _):(C9 a).l<=a.l/\L0 a a 0=Au ((C9 a).l=a.l):=by
 let⟨c,b⟩:=dG a a [] [] B (λd=>by simp[Eu])
 have b:L0 a a 0=Au ((On a 0 []).l=([]).l+a.l):=b;refine⟨by simpa[C9]using c,?_⟩;rw[b];exact decide_eq_decide.2 (by rw[Aj1,Aix];rfl)
def AbI(b:C _)(j:Ab)(l:D)(a:AD):SC b j l a=Py b j l a:=by
 unfold SC Py;generalize GZ b j a.AT l=d;generalize G:a.AT.l=F;by_cases c:a.Bk=[];all_goals
  by_cases m:a.op=1
  .cases d<;>rw[AiQ]<;>simp[E5,FA,HB,Is,BY,B_,m,c]<;>omega
  by_cases s:a.op=2
  .cases d<;>rw[AiQ]<;>simp[E5,FA,HB,Is,BY,B_,s,c]<;>omega
  by_cases u:a.op=4
  .generalize y:DZ a.Bk=E;by_cases k:0<E;all_goals cases d<;>rw[AiQ]<;>simp[E5,FA,HB,Is,BY,B_,u,c,y,k]<;>omega
  by_cases v:a.op=5
  .cases d<;>rw[AiQ]<;>simp[E5,FA,HB,Is,BY,B_,v,c]<;>omega
  by_cases w:a.op=6
  .cases d<;>rw[AiQ]<;>simp[E5,FA,HB,Is,BY,B_,w,c]<;>omega
  by_cases x:a.op=7
  .cases d<;>rw[AiQ]<;>simp[E5,FA,HB,Is,BY,B_,x,c]<;>omega
  by_cases p:a.op=12
  .cases d<;>rw[AiQ]<;>simp[E5,FA,HB,Is,BY,B_,p,c]<;>omega
  by_cases o:a.op=11
  .cases d<;>rw[AiQ]<;>simp[E5,FA,HB,Is,BY,B_,o,c]<;>omega
  by_cases h:a.op=8
  .cases z:b[(CO b a.Bk).n]?with
   |none=>
    have e:Jl b a=(B_ 1 1 0 0 Ac,Ac):=by unfold Jl;grind
    have f:KL b a= -1:=by unfold KL;grind
    cases d<;>rw[AiQ]<;>simp[E5,FA,HB,Is,BY,B_,h,c,e,f]<;>omega
   |some g=>
    by_cases k:0<=CO b a.Bk/\(Au (0<g.A6.l)=Au (a.op=9))
    .have e:Jl b a=(B_ g.Ap g.Bs.l 0 0 L,L):=by unfold Jl;grind
     have f:KL b a=g.Ap:=by unfold KL;grind
     cases d<;>rw[AiQ]<;>simp[E5,FA,HB,Is,BY,B_,h,c,e,f]<;>omega
    .have e:Jl b a=(B_ 1 1 0 0 Ac,Ac):=by unfold Jl;grind
     have f:KL b a= -1:=by unfold KL;grind
     cases d<;>rw[AiQ]<;>simp[E5,FA,HB,Is,BY,B_,h,c,e,f]<;>omega
  by_cases i:a.op=9
  .cases z:b[(CO b a.Bk).n]?with
   |none=>
    have e:Jl b a=(B_ 1 1 0 0 Ac,Ac):=by unfold Jl;grind
    have f:KL b a= -1:=by unfold KL;grind
    cases d<;>rw[AiQ]<;>simp[E5,FA,HB,Is,BY,B_,i,c,e,f]<;>omega
   |some g=>
    by_cases k:0<=CO b a.Bk/\(Au (0<g.A6.l)=Au (a.op=9))
    .have e:Jl b a=(B_ g.Ap g.Bs.l 0 0 L,L):=by unfold Jl;grind
     have f:KL b a=g.Ap:=by unfold KL;grind
     cases d<;>rw[AiQ]<;>simp[E5,FA,HB,Is,BY,B_,i,c,e,f]<;>omega
    .have e:Jl b a=(B_ 1 1 0 0 Ac,Ac):=by unfold Jl;grind
     have f:KL b a= -1:=by unfold KL;grind
     cases d<;>rw[AiQ]<;>simp[E5,FA,HB,Is,BY,B_,i,c,e,f]<;>omega
  by_cases t:a.op=3
  .cases d<;>rw[AiQ]<;>simp[E5,FA,HB,Is,BY,B_,t,c]<;>omega
  by_cases n:a.op=10
  .cases d<;>rw[AiQ]<;>simp[E5,FA,HB,Is,BY,B_,n,c]<;>omega
  by_cases q:a.op=13
  .cases d<;>rw[AiQ]<;>simp[E5,FA,HB,Is,BY,B_,q,c]<;>omega
  by_cases r:a.op=14
  .cases d<;>rw[AiQ]<;>simp[E5,FA,HB,Is,BY,B_,r,c]<;>omega
  cases d<;>rw[AiQ]<;>simp[E5,FA,HB,Is,BY,B_,m,s,t,u,v,w,x,h,i,n,o,p,q,r,c]<;>omega
def kH(d:C _)(b:Ab):∀(a:C _)(c:D),QN d b a c=Ol d b a c
 |[],_=>rfl
 |e::a,c=>by unfold QN Ol;rw[AbI,kH d b a]
def oL(b:C _)(a:Ab):Ny b a=Lc b a:=by unfold Ny Lc;rw[kH];grind
def bf(a:C Ab):K:=
 if(Au ((60:K)<a.l)||decide ((400:K)<S6 a 0)||Rj a Ac)=L then 5
 else if(a.any λb=> !Ny a b)=L then 4
 else if((C9 a).l:K)<a.l then 6
 else if Li a=Ac then 9
 else 0
def Rz{d:Type}(a:d->Ak):∀b:C _,(b.any λc=> !a c)= !(b.all a)
 |[]=>rfl
 |f::e=>by grind
def gn(a:C Ab):bf a=DR a:=by
 unfold bf DR;rw[lX a 0 (by omega)];have c:(a.any λb=> !Ny a b)= !(a.all λb=>Lc a b):=by rw[Rz];congr 2;funext b;exact oL a b
 rw[c,(kO a).2];have e:=(kO a).1;by_cases d:(60:K)<a.l;.grind
 grind
def VL{b:C _}(c:CA b){d:D}{a:Ab}(e:b[d]? =A a):a.CA:=c.2 a P
def P3(b:C Ab)(c:Aa)(a:G):Prop:=a.N c=A (.I 1 [.pi (Ei b (C9 b))])/\Lv a c
def tw(b:C Ab)(i:CA b)(a:Ab)(j:a∈b)(d:Aa)(c:G)(e:P3 b d c):∃f,W9 (Ar 156) [.S (Ab.c a),.p d 0] c=A (.b (!Ny b a),f)/\P3 b d f:=by
 have g:=tx b a i (i.2 a j);have h:=(Ke e.2 (.I 5 (Ab.c a))).t e.1;have l:AW (c.V (.I 5 (Ab.c a))) [.p d 0]=A (.pi (Ei b (C9 b))):=by rw[RP,AJ h];rfl
 refine⟨c.V (.I 5 (Ab.c a)),Bd B B ?_,h,e.2.V _⟩;rw[vV];generalize Ny b a=k at g⊢;cases k<;>simp only[QY,g.H B,QB, *]
def AaP(a b c:K):∃d,Ih [.n a,.n b,.n c]=A (.n d)/\Au (12<d)=(Au (12<a)||decide (12<b)||decide (12<c)):=by
 refine⟨An (Mq c (An (Mq b a) a b)) (An (Mq b a) a b) c,?_,?_⟩;.show Sv .n a _=_;unfold Sv;rw[LP];unfold Sv;rw[LP];rfl
 .rw[Nt,Nt];grind
def oR(d:C Ab){i:D}{c:Ab}(m:d[i]? =A c)(p:CA d)(n:F)(e:K)(t:0<=e/\e<=1000000000000)(k:Ak)(f:Aa)(g:G)(h:P3 d f g):∃l,P3 d f l/\jj W9 106 5 [.n e,.b k,.n i,n,Z Ab.c d,.p f 0] g=jj W9 106 4 [.n i,n,Z Ab.c d,.n (e+c.Ay.l),.b (k||Rk c),.p f 0] l:=by
 let⟨j,s,q⟩:=AaP c.Ap c.A6.l c.Bs.l
 have r:Rk c=Au (12<j):=q.s;have o:=E6 .n j 12;refine⟨g.V (.I 5 (Ab.c c)),⟨(Ke h.2 _).t h.1,h.2.V _⟩,?_⟩;rw[r,Sb.2.2.2.1];generalize Au (12<j)=u at o⊢;cases k<;>simp only[QY,H (Da m),H (GJ (a:=e) (b:=c.Ay.l) (by omega) (by have:=(VL p m).1;omega)),QB, *]
def rf(a:C Ab)(M:CA a)(m:K)(l:Ak)(k:Aa)(f:G)(o:P3 a k f):
  ∃R,jj W9 106 2 [.n m,.b l,.p k 0] f=A (.n (if(Au ((60:K)<a.l)||decide (400<m)||l)=L then 5
   else if(a.any λc=> !Ny a c)=L then 4 else if((C9 a).l:K)<a.l then 6 else if Li a=Ac then 9 else 0),R):=by
 have W:=M.1
 have g:∀b,P3 a k b->AW b [.p k 0]=A (.pi (Ei a (C9 a))):=λb z=>by rw[RP,AJ z.1];rfl
 have T:Jt (P3 a k) (Z Ab.c a) 5 a (λc=>.S (Ab.c c)) (Bf 5):=Jt.Z a (λ_=>B) (λ_ _=>B)
 let⟨r,n,s⟩:=NX pd va T (λV S b z=>tw a M V S k b z) (by omega) f o
 have i:=E6 .n a.l 60
 have j:=E6 .n m 400
 have h:=E1 .n (C9 a).l a.l
 have t:∀b,Ig b [Kk (C9 a)]=A (.n (C9 a).l):=λb=>by show A (F.n (Int.ofNat ((C9 a).m _).l))=_;rw[Aiw];rfl
 have d:=Uy L (.n 0) f (C9 a) G4
 rw[XQ]at d
 have u:∀b,AW b [.pi ((Ei a (C9 a)).d 0)]=A (Z Ab.c a):=λ_=>B
 have v:∀b,AW b [.pi ((Ei a (C9 a)).d 1)]=A (Kk (C9 a)):=λ_=>B
 rw[Sb.2.1]
 generalize(a.any λc=> !Ny a c)=w at n⊢
 by_cases x:0<=CO a G4
 .rcases RT a G4 with y|⟨N,c,y,J,_⟩;.grind
  have I:=cf c;have E:Li a= !Au (0<c.A6.l):=by unfold Li;rw[y,Aif,J];show(Au (0<=N)&&Au (c.A6.l=0))=_;rw[Be (by omega),Ai5,<-decide_not];exact decide_eq_decide.2 (by omega)
  rw[Af x,y]at d;have d:E7 Ac [2] (.n 0) L f [Kk (C9 a),.s G4]=A (.AC [.n N,.b L]):=d;unfold G4 at d;rw[E];have P:∀b,Bf 5 b [.pi (Ab.c c)]=A (.S (Ab.c c)):=λ_=>B;generalize Au ((60:K)<a.l)=p at i⊢;generalize Au (400<m)=q at j⊢;generalize Au (0<c.A6.l)=U at I⊢;by_cases e:((C9 a).l:K)<a.l;.rw[Be e]at h;rw[Af e];cases p<;>cases q<;>cases l<;>cases w<;>simp only[↓Q,↓H (g f o),↓H (g r s),↓H (u _),↓H (v _),↓H d,↓H i,↓H j,↓H n,↓H (t _),↓H h,QB]<;>exact⟨_,B⟩
  .rw[Ba e]at h;rw[Ad e];cases p<;>cases q<;>cases l<;>cases w<;>cases U<;>simp only[↓Q,↓H (g f o),↓H (g r s),↓H (u _),↓H (v _),↓H d,↓H i,↓H j,↓H n,↓H (t _),↓H h,↓H (Da J),↓H (P _),↓I.H B,Sb.2.2.2.2.2,QB]<;>grind
 .have E:Li a=Ac:=by
   unfold Li
   rw[Ba x]
   split<;>rfl
  rw[Ad x]at d
  unfold G4 at d
  rw[E]
  generalize Au ((60:K)<a.l)=p at i⊢
  generalize Au (400<m)=q at j⊢
  by_cases e:((C9 a).l:K)<a.l
  .rw[Be e]at h;rw[Af e];cases p<;>cases q<;>cases l<;>cases w<;>simp only[↓Q,↓H (g f o),↓H (g r s),↓H (u _),↓H (v _),↓H d,↓H i,↓H j,↓H n,↓H (t _),↓H h,QB]<;>exact⟨_,B⟩
  .rw[Ba e]at h;rw[Ad e];cases p<;>cases q<;>cases l<;>cases w<;>simp only[↓Q,↓H (g f o),↓H (g r s),↓H (u _),↓H (v _),↓H d,↓H i,↓H j,↓H n,↓H (t _),↓H h,QB]<;>exact⟨_,B⟩
def Aah(a:C Ab)(f:CA a)(h:Aa):∀g b c d e,a.l-b=g->b<=a.l->0<=c->c<=(b:K)*1000000->P3 a h e->
  ∃s,jj W9 106 3 [.n (a.l:K),Z Ab.c a,.n (b:K),.n c,.b d,.p h 0] e=A (.n (if(Au ((60:K)<a.l)||decide ((400:K)<S6 (a.d b) c)||Rj (a.d b) d)=L then 5
   else if(a.any λp=> !Ny a p)=L then 4 else if((C9 a).l:K)<a.l then 6 else if Li a=Ac then 9 else 0),s):=by
 have G:=f.1
 intro g
 induction g with
 |zero=>
  intro b c d e w x m v k;have j:¬(b:K)<a.l:=by omega
  rw[Sb.2.2.1];simp only[↓Q,↓QC,j,↓reduceIte];rw[Aiq (by omega)];exact rf a f c d h e k
 |succ g E=>
  intro b c d e w x m v k;have j:(b:K)<a.l:=by omega
  let⟨o,n,y⟩:=Eh (b:=a) (a:=b) (by omega)
  have F:=(VL f n).1;let⟨t,z,q⟩:=oR a n f (.n (a.l:K)) c ⟨m,by omega⟩ d h e k
  let⟨u,r⟩:=E (b+1) (c+o.Ay.l) (d||Rk o) t (by omega) (by omega) (by omega) (by omega) z
  refine⟨u,?_⟩;rw[Sb.2.2.1];simp only[↓Q,↓QC,j,↓reduceIte];rw[q,Sb.2.2.2.2.1];simp only[↓Q,↓H (BF (a:=b) (by omega))];rw[r,y];rfl
def s_(a:C _)(i:CA a):A2 106 [.pi (Ei a (C9 a))] (.n (DR a)):=BP B B B (by
 let⟨h,c⟩:=Aah a i _ a.l 0 0 Ac (G.Az.V (.I 1 [.pi (Ei a (C9 a))])) (by omega) (by omega) (by omega) (by omega) ⟨B,GD _ _⟩
 refine⟨h,?_⟩;rw[<-gn];unfold bf;rw[AiE]at c;have l:∀(b:G)(d:C F)(c:F->G->R),bl (.p b.next 0) (b.V (.I (BK (F.I (.pi d))) (F.I (.pi d)))) c=c (.p b.next 0) (b.V (.I 1 [.pi d])):=λ_ _ _=>B;have k:(Ei a (C9 a)).d 0=Ei a (C9 a):=B;have j:∀f,AW f [.pi (Ei a (C9 a))]=A (Z Ab.c a):=λ_=>B;have m:G.Az.next=.h:=B;have g:∀(e:F->R),(([F.pi (Ei a (C9 a))])[0]?).b e=e (.pi (Ei a (C9 a))):=by grind
 rw[Sb.1];simp only[↓l,↓Q,↓g,k,↓H (j _)];grind)
def iK(a:C Ab)(f:CA a):A2 66 [Z Ab.c a] (.AC [if DR a=0 then .pi (Ei a (C9 a))else .pn,.n (DR a)]):=by
 have d:=ic a (by have:=f.1;omega);have e:=s_ a f;have c:=FW .n (DR a) 0;by_cases b:DR a=0;.rw[Af b];rw[Be b]at c;refine BP B B B ⟨G.Az,?_⟩;rw[c3.1];simp only[QY,d.H B,e.H B,c,QB,c3.2];grind
 .rw[Ad b];rw[Ba b]at c;refine BP B B B ⟨G.Az,?_⟩;rw[c3.1];simp only[QY,d.H B,e.H B,QB, *]
def uq(a:C _)(d:CA a):A2 31 [Z Ab.c a] (.n (DR a)):=BP B B B ⟨G.Az,by
 have b:=iK a d;by_cases c:DR a=0;.rw[Af c]at b;rw[jL];simp only[QY,b.H B]
 .rw[Ad c]at b;rw[jL];simp only[QY,b.H B]⟩
def Il(a:C Ab):K:=match a[(CO a G4).n]?with|some b=>b.Ap-1|none=>0
def kg{a:C _}(d:DR a=0):∃c b,CO a G4=((c:D):K)/\a[c]? =A b/\b.A6.l=0:=by
 unfold DR at d;have e:Li a=L:=by grind
 unfold Li at e;grind
def uK(c:C _)(k:CA c):A2 68 [Z Ab.c c] (.AC [.n (if DR c=0 then Il c else 0),.n (DR c)]):=BP B B B ⟨G.Az,by
 have g:=iK c k;have i:=FW .n (DR c) 0;by_cases e:DR c=0
 .rw[Af e]at g⊢;let⟨p,d,o,j,_⟩:=kg e
  have t:=(VL k j).2.2.2.2.1;have u:1<=d.Ap\/d.Ap<=0:=by omega
  have f:=Uy Ac (.n 0) G.Az (C9 c) G4;rw[XQ,o,Af (by omega)]at f;have f:E7 Ac [2] (.n 0) Ac G.Az [Kk (C9 c),.s G4]=A (.n p):=f;unfold G4 at f;have q:∀h,AW h [.pi ((Ei c (C9 c)).d 0)]=A (Z Ab.c c):=λ_=>B;have r:∀h,AW h [.pi ((Ei c (C9 c)).d 1)]=A (Kk (C9 c)):=λ_=>B;rw[Be e]at i;have s:1<=d.Ap:=by
   have:=gn c;unfold DR at e;by_cases l:(c.all λd=>Lc c d)=Ac;.grind
   .have l:(c.all λd=>Lc c d)=L:=by grind
    have:=AiP.1 l d P;unfold Lc at this;grind
  have m:=Gu (a:=d.Ap) (b:=1) (by omega) (by omega);have n:Il c=d.Ap-1:=by unfold Il;grind
  rw[c4.1,n];simp only[QY,g.H B,i,QB,c4.2,q _,r _,f,Da j,m];grind
 .rw[Ad e]at g⊢;rw[Ba e]at i;rw[c4.1];simp only[QY,g.H B,QB, *]⟩
def AK:M:=⟨0,0⟩
def Ed(a:K):M:=⟨1,a⟩
def ET(a:Ak):M:=⟨2,if a=L then 1 else 0⟩
def Di:M:=⟨3,0⟩
def DB(a:K):M:=⟨4,a⟩
def D2(a:K):M:=⟨5,a⟩
def R4(a:K):A2 21 [.n a] (.S (M.c (Ed a))):=BP B B B ⟨_,by rw[v9];rfl⟩
def cm:A2 87 [] (.S (M.c Di)):=BP B B B ⟨G.Az.V (.I 2 (M.c Di)),by rw[wM];kernel_rfl⟩
def h_(a:K):A2 23 [.n a] (.S (M.c (DB a))):=BP B B B ⟨_,by rw[ws];rfl⟩
def N3(a:K):A2 22 [.n a] (.S (M.c (D2 a))):=BP B B B ⟨_,by rw[wi];rfl⟩
def ce(a:K):A2 115 [.n a] (.S (M.c (Ed a))):=BP B B B ⟨_,by rw[vK];rfl⟩
def O8(a:K):A2 228 [.n a] (.S (M.c (D2 a))):=BP B B B ⟨_,by rw[wr];rfl⟩
def YG:A2 112 [] (.S (M.c AK)):=BP B B B ⟨G.Az.V (.I 2 (M.c AK)),by rw[vI];kernel_rfl⟩
def cd:A2 113 [] (.S (M.c Di)):=BP B B B ⟨G.Az.V (.I 2 (M.c Di)),by rw[vJ];kernel_rfl⟩
def O6(a:Ak):A2 179 [.b a] (.S (M.c (ET a))):=BP B B B (by
 have b:BE [(.i .u8 0),(.n 0)] [(0,1)] [(.i .u8 2)]=A (.S (M.c (ET Ac))):=B;cases a
 .exact⟨G.Az.V (.I 2 (M.c (ET Ac))),by rw[cY.1];simp only[QY,cY.2, *]⟩
 .exact⟨_,by rw[cY.1];rfl⟩)
def mI(a:M)(b:G)(d c:Aa)(f:b.N d=A (.I 2 (M.c a)))(g:b.N c=A (.I 2 (M.c AK))):jj W9 222 1 [.p d 0,.p c 0] b=A (.S (M.c a),b.set c (.I 2 (M.c a))):=by
 have h:Bf 2 b [.p d 0]=A (.S (M.c a)):=by rw[Gk,EA f,Af (by omega),Af B];rfl
 have i:A1 2 b [.p c 0,.S (M.c a)]=A (Ax,b.set c (.I 2 (M.c a))):=by show An (An (Bb (BK (M.c a)) 2) (Ct (M.c a)) Ac) (match b.EY c 0 2 (M.c a)with|some e=>A (Ax,e)|none=>O) O=_;rw[L8 (by rw[g];rfl),Af (by omega),Af B];rfl
 have j:Bf 2 (b.set c (.I 2 (M.c a))) [.p c 0]=A (.S (M.c a)):=by rw[Gk,EA (c:=M.c a) (d:=2) (by rw[AY,Af B]),Af (by omega),Af B];rfl
 rw[cZ.2];grind
def YI(a:Ak):A2 222 [.b a] (.S (M.c (ET a))):=BP B B B (by
 have b:BE [(.i .u8 0),(.n 0)] [(0,1)] [(.i .u8 2)]=A (.S (M.c (ET Ac))):=B;cases a
 .refine⟨((G.Az.V (.I 2 (M.c AK))).V (.I 2 (M.c (ET Ac)))).set .h (.I 2 (M.c (ET Ac))),?_⟩;.rw[cZ.1];simp only[QY, *];exact(mI _ ((G.Az.V (.I 2 (M.c AK))).V (.I 2 (M.c (ET Ac)))) (.o .h) .h B B)
 .have g:=mI _ ((G.Az.V (.I 2 (M.c AK))).V (.I 2 (M.c (ET L)))) (.o .h) .h B B;have c:A1 1 ((G.Az.V (.I 2 (M.c AK))).V (.I 2 (M.c (ET Ac)))) [.p (.o .h) 1,.n 1]=A (Ax,(G.Az.V (.I 2 (M.c AK))).V (.I 2 (M.c (ET L)))):=by kernel_rfl
  refine⟨((G.Az.V (.I 2 (M.c AK))).V (.I 2 (M.c (ET L)))).set .h (.I 2 (M.c (ET L))),?_⟩
  .rw[cZ.1];simp only[QY, *];have f:(G.Az.V (.I 2 (M.c AK))).next=.o .h:=B
   have d:G.Az.next=.h:=B;have e:([.i _ 0,.i _ 0])=M.c AK:=B;grind)
def VU(a:M):A2 190 [.S (M.c a)] (.b (Au (a.Ai=0))):=BP B B B ⟨G.Az.V (.I 2 (M.c a)),by rw[v5];simp only[↓Q,↓QD,↓QC]⟩
def Nq(a:M):A2 103 [.S (M.c a)] (.b (!Au (a.Ai=0))):=BP B B B ⟨G.Az.V (.I 2 (M.c a)),by rw[vC];simp only[↓Q,↓QD,↓QC]⟩
def YH(a:M):A2 120 [.S (M.c a)] (.b (Au (a.Ai=5))):=BP B B B ⟨G.Az.V (.I 2 (M.c a)),by rw[vP];simp only[↓Q,↓QD,↓QC]⟩
def YK(a:M):A2 226 [.S (M.c a)] (.b (Au (a.Ai=5))):=BP B B B ⟨G.Az.V (.I 2 (M.c a)),by rw[wo];simp only[↓Q,↓QD,↓QC]⟩
def O7(a b c:K):A2 111 [.n a,.n b,.n c] (.b (BY a b c)):=BP B B B ⟨G.Az,by rw[vH];unfold BY;by_cases d:b<=a<;>by_cases e:a<=c<;>simp only[↓Q,↓QT,Aic,Int.reduceEq,d,e,AiA,AiY,QB]⟩
def GP(a:M)(b:K):Ak:=
 if a.Ai=0\/a.Ai=3 then Au (a.n=0)
 else if a.Ai=1 then BY a.n (-1000000000) 1000000000
 else if a.Ai=2 then BY a.n 0 1
 else if a.Ai=4 then BY a.n 0 (b-1)
 else if a.Ai=5 then BY a.n 1 5
 else Ac
def YF(c:M)(f:K)(m:0<=f/\f<=1000000000):A2 96 [.S (M.c c),.n f] (.b (GP c f)):=BP B B B ⟨G.Az.V (.I 2 (M.c c)),by
 have l:=Gu (a:=f) (b:=1) (by omega) (by omega);have k:=Cz .n c.n 0;unfold GP;rw[Pp.1];by_cases d:c.Ai=0;.simp only[QY,Int.reduceEq,d,Pp.2.2,true_or,reduceIte, *]
 by_cases e:c.Ai=3;.simp only[QY,Int.reduceEq,d,e,Pp.2.2,or_true,reduceIte, *]
 rw[Ad P];by_cases g:c.Ai=1;.simp only[QY,Int.reduceEq,d,e,g,Pp.2.2,(O7 c.n (-1000000000) 1000000000).H B,reduceIte]
 by_cases h:c.Ai=2;.simp only[QY,Int.reduceEq,d,e,g,h,Pp.2.2,(O7 c.n 0 1).H B,reduceIte]
 by_cases i:c.Ai=4;.simp only[QY,Int.reduceEq,d,e,g,h,i,Pp.2.2,(O7 c.n 0 (f-1)).H B,reduceIte, *]
 by_cases j:c.Ai=5;.simp only[QY,Int.reduceEq,d,e,g,h,i,j,Pp.2.2,(O7 c.n 1 5).H B,reduceIte]
 simp only[↓Q,↓QD,↓QT,Aic,Int.reduceEq,d,e,g,h,i,j,Pp.2.2,Pp.2.1,↓reduceIte]⟩
def JG(a:M)(b:K):Ak:=
 if a.Ai=0\/a.Ai=3 then Au (a.n=0)
 else if a.Ai=1 then BY a.n (-1000000000) 1000000000
 else if a.Ai=2 then Au (a.n=0)||decide (a.n=1)
 else if a.Ai=4 then Au (0<=a.n)&&(Au (b<0)||decide (a.n<b))
 else if a.Ai=5 then BY a.n 1 5
 else Ac
def s6(a:M)(f:K):A2 181 [.S (M.c a),.n f] (.b (JG a f)):=BP B B B ⟨G.Az.V (.I 2 (M.c a)),by
 have l:=Cz .n a.n 0;unfold JG;rw[Ph.1];by_cases b:a.Ai=0;.simp only[QY,Int.reduceEq,b,Ph.2.2,true_or,reduceIte, *]
 by_cases c:a.Ai=3;.simp only[QY,Int.reduceEq,b,c,Ph.2.2,or_true,reduceIte, *]
 rw[Ad P];by_cases d:a.Ai=1;.simp only[QY,Int.reduceEq,b,c,d,Ph.2.2,(Nr a.n (-1000000000) 1000000000).H B,reduceIte]
 by_cases e:a.Ai=2;.by_cases h:a.n=0<;>by_cases i:a.n=1<;>simp only[↓Q,↓QD,↓QT,Aic,Int.reduceEq,b,c,d,e,h,i,Ph.2.2,↓reduceIte,AiA,AiY,QB]
 by_cases g:a.Ai=4;.by_cases h:0<=a.n<;>by_cases i:f<0<;>by_cases k:a.n<f<;>simp only[↓Q,↓QD,↓QT,Aic,Int.reduceEq,b,c,d,e,g,h,i,k,Ph.2.2,↓reduceIte,AiA,AiY,QB]
 by_cases j:a.Ai=5;.simp only[QY,Int.reduceEq,b,c,d,e,g,j,Ph.2.2,(Nr a.n 1 5).H B,reduceIte]
 simp only[↓Q,↓QD,↓QT,Aic,Int.reduceEq,b,c,d,e,g,j,Ph.2.2,Ph.2.1,↓reduceIte]⟩
def R8(b:M){a:K}(c:0<=a):JG b a=GP b a:=by
 unfold JG GP BY;split; ·rfl
 split; ·rfl
 split<;>grind
def II(a:M)(b:K):Ak:= !Au (a.Ai=0)&&GP a b
def tR(a:M)(b:K)(e:0<=b/\b<=1000000000):A2 206 [.S (M.c a),.n b] (.b (II a b)):=BP B B B ⟨G.Az.V (.I 2 (M.c a)),by have c:=VU a;unfold II;rw[v8];generalize Au (a.Ai=0)=d at c⊢;cases d<;>simp only[QY,c.H B,(YF a b e).H B,QB]⟩
def G8(a:K):M:=if BY a (-1000000000) 1000000000=L then Ed a else D2 2
def TX(a:K):A2 212 [.n a] (.S (M.c (G8 a))):=BP B B B (by
 have b:=O7 a (-1000000000) 1000000000;have c:=O8 2;have d:=ce a;unfold G8;rw[jI.1];generalize BY a (-1000000000) 1000000000=e at b⊢;cases e
 .exact⟨_,by simp only[QY,b.H B,c.H B,d.H B,QB];rfl⟩
 .exact⟨_,by simp only[QY,b.H B,c.H B,d.H B,jI.2,QB];rfl⟩)
def uJ(c d:K)(g:0<=c/\c<=1000000)(h:0<=d/\d<=1000000):A2 147 [.n c,.n d] (.n (1000*c+d)):=BP B B B ⟨G.Az,by
 have e:A7 .mul [.n 1000,.n c]=A (.n (1000*c)):=by rw[bJ,OJ (by omega) (by omega)]
 have f:=GJ (a:=1000*c) (b:=d) (by omega) (by omega);rw[vT];grind⟩
