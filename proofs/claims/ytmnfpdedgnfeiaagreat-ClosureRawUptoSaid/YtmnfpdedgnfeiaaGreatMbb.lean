/- Part of the proof. -/
import Derived.Test.YtmnfpdedgnfeiaaGreatMba
set_option linter.all false
noncomputable section
open Option renaming some->A,none->O,bind->Option.b
open _root_ renaming rfl->B,List->C,Nat->D,Int->K,if_neg->Ad,if_pos->Af,Option->Aj,Bool->Ak,cond->An,absurd->A_,decide_eq_false->Ba,decide_eq_true->Be
open Bool renaming true->L,false->Ac
open Decidable renaming decide->Au
open Nat renaming beq->Bb,ble->Co,le_refl->C6
open List renaming length->List.l,map->List.m,take->List.t,drop->List.d,flatMap->List.f
open Go.IntKind renaming i64->Go.IntKind.n
open Array renaming toList->Array.l
open Eq renaming trans->Eq.t,symm->Eq.s
open Or renaming inl->Or.i,inr->Or.j
open Int renaming toNat->Int.n
namespace Go.Proofs.YtmnfpdedgnfeiaaGreat
open Go.Fg
def AE(e:F)(d:Aa):Prop:=∀c b a w,e≠.Z d c b a w
theorem CM(a:Aa):AE .sn a:=λ_ _ _ _ b=>by grind
theorem Fe{a b:Aa}{e d c w:D}(h:a≠b):AE (.Z a e d c w) b:=λ_ _ _ _ g=>P
theorem AE.ne{a e:Aa}{d c b w:D}(g:AE (.Z a d c b w) e):e≠a:=λh=>g d c b w (by grind)
def AF{t:Type}(d:G)(e:F)(f:t->C F)(w:D)(a:C t):Prop:=
 (e=.sn/\a=[])\/∃b c,e=.Z b 0 a.l c w/\(c=0\/c=a.l+1)/\d.N b=A (.I (a.l*w) (a.f f))/\Lv d b
def IC(d:F)(b c:G):Prop:=∀a,Lv b a->AE d a->c.N a=b.N a/\Lv c a
theorem AR.Yq{c:F}{a b:G}(d:AR a b):IC c a b:=λg e _=>P
theorem IC.N{d:F}{b c:G}(e:IC d b c){a:Aa}(h:Lv b a)(g:AE d a):c.N a=b.N a:=(e a h g).1
theorem IC.lv{d:F}{b c:G}(e:IC d b c){a:Aa}(h:Lv b a)(g:AE d a):Lv c a:=(e a h g).2
section
variable{t:Type} {f:t->C F} {w:D}
theorem AF.sn(a:G):AF a .sn f w ([]):=.i ⟨B,B⟩
theorem AF.Av{b c:G}{g:F}{e:C _}(d:AF b g f w e)(k:∀a,Lv b a->¬AE g a->c.N a=b.N a/\Lv c a):AF c g f w e:=by
 rcases d with d|⟨h,i,j,l,o,m⟩;.exact .i d
 .have:=k h m (λn=>n 0 e.l i w j);exact .j ⟨h,i,j,l,P,P⟩
theorem AF.ext{a b:G}{d:F}{c:C _}(e:AF a d f w c)(g:AR a b):AF b d f w c:=e.Av P
theorem N2(a:∀c,(f c).l=w):∀b:C _,(b.f f).l=b.l*w
 |[]=>by simp
 |c::d=>by rw[AiV,Aio,a,N2 a d,AiD,AjO,Nat.add_comm]
theorem ZE{b:G}{j:F}{c a:C t}{i:D}(M:∀J,(f J).l=w)(s:AF b j f w c)(z:(c.l+a.l)*i<=Hs):∃q m,LA b w i j a.l (a.f f)=A (q,m)/\AF m q f w (c++a)/\IC j b m/\(∀e,Lv b e->AE j e->AE q e):=by
 by_cases o:a.l=0
 .have I:=Aju.1 o;subst I;refine⟨j,b,?_,by grind,λe h _=>⟨B,h⟩,P⟩;rcases s with⟨rfl,rfl⟩|⟨d,l,rfl,u,n,x⟩;.rfl
  .show An (Bb w w) (An (Bb 0 0) _ _) O=_;rw[AiG];rfl
 rcases s with⟨rfl,rfl⟩|⟨d,l,rfl,u,n,x⟩
 .refine⟨.Z b.next 0 a.l 0 w,b.V (.I (a.l*w) (a.f f)),?_,?_,(AR.V _ _).Yq,?_⟩;.show An (Bb a.l 0) _ (An (Co (a.l*i) Hs) _ O)=_;rw[G0 o,Air (by grind)];rfl
  .exact .j ⟨b.next,0,B,Om,P,P⟩
  .exactλe h _=>Fe (λg=>by subst g;exact FO b h)
 .have p:(An (Bb c.l 0) (A []) (b.AU d 0 (c.l*w)))=A (c.f f):=by
   by_cases g:c.l=0
   .have:=Aju.1 g;subst this;rfl
   .rw[G0 g];show b.AU d 0 (c.l*w)=_;rw[EA n,Af (by omega),Af B]
  have r:EK (c.f f) (a.f f)=(c++a).f f:=by rw[Lz,Aks]
  have E:(c++a).l=c.l+a.l:=by grind
  have v:∀k,LA b w i (.Z d 0 c.l l w) a.l (a.f f)=k↔T0 b d 0 c.l l w a.l (c.f f) (a.f f)=k:=λk=>by show An (Bb w w) (An (Bb a.l 0) _ (An (Co ((c.l+a.l)*i) Hs) (match(An (Bb c.l 0) (A []) (b.AU d 0 (c.l*w)))with|none=>O|some p=>T0 b d 0 c.l l w a.l p (a.f f)) O)) O=k↔_;rw[AiG,G0 o,Air z,p];grind
  rcases u with rfl|rfl
  .refine⟨F.Z b.next 0 (c.l+a.l) 0 w,(b.Hg d).V (.I ((c.l+a.l)*w) ((c++a).f f)),(v _).2 ?_,?_,?_,?_⟩;.show An (Y2 (b.N d)) (A (F.Z b.next 0 (c.l+a.l) 0 w,(b.Hg d).V (.I ((c.l+a.l)*w) (EK (c.f f) (a.f f))))) O=_;rw[n,r];rfl
   .refine .j ⟨b.next,0,by grind,Om,?_,?_⟩;.rw[E];exact I8 _ _
    .rw[<-(G.UD _ _:(b.Hg d).next=b.next)];grind
   .intro e h y;have H:Lv (b.Hg d) e:=by rw[AaC];grind
    refine⟨?_,P⟩;rw[Ke H,uS,Ad y.ne]
   .exactλe h _=>Fe (λg=>by subst g;exact FO b h)
  .refine⟨F.Z b.next 0 (c.l+a.l) 0 w,b.V (.I ((c.l+a.l)*w) ((c++a).f f)),(v _).2 ?_,?_,(AR.V _ _).Yq,?_⟩;.show An _ _ _=_;rw[RF (by omega),r];rfl
   .exact .j ⟨b.next,0,by grind,.i B,by grind,GD _ _⟩
   .exactλe h _=>Fe (λg=>by subst g;exact FO b h)
theorem UK{b:G}{g:F}{c a:C t}{j:D}(l:∀i,(f i).l=w)(u:∀i,Ct (f i)=L)(s:AF b g f w c)(v:(c.l+a.l)*j<=Hs):∃h d,Eo w j b [g,Z f a]=A (h,d)/\AF d h f w (c++a)/\IC g b d/\(∀k,Lv b k->AE g k->AE h k):=by
 let⟨h,d,e,y⟩:=ZE l s v
 refine⟨h,d,?_,y⟩;show(match KP (Z f a)with|some n=>(match HO b w n (Z f a)with|some o=>An (Ct o) (LA b w j g n o) O|none=>O)|none=>O)=_;have q:KP (Z f a)=A a.l:=by unfold Z;show A _=_;grind
 have r:HO b w a.l (Z f a)=A (a.f f):=by
  unfold Z;show An (Co a.l (a.m f).l&&((a.m f).all λe=>Bb e.l w)) (A (((a.m f).t a.l).flatten)) O=_;have p:((a.m f).all λe=>Bb e.l w)=L:=by rw[AiP];intro e x;obtain⟨i,_,rfl⟩:=AiR.1 x;rw[l];exact AiG w
  rw[(Air (by grind)),p,AiX (by grind),List.flatMap_def];rfl
 rw[q];simp only[r];rw[(λc=>by
  induction c with
  |nil=>rfl
  |cons i z m=>rw[EC]at m⊢;rw[AiV,Ajm,m,<-EC,u];rfl:∀c:C t,Ct (c.f f)=L)]
 grind
theorem W6{a:F}(b:Aa)(d:a.I.l=w):CB 1 w b [a]=A (.I w a.I,.Z b 0 1 2 w):=by
 have c:UX w [a]=A a.I:=by show An (Bb (BK a.I) w) (A (EK a.I [])) O=_;rw[HE,d,AiG,Lz,Aiy];rfl
 show An (Bb (BK [a]) 1) (match UX w [a]with|some e=>A (Ce.I (1*w) e,F.Z b 0 1 2 w)|none=>O) O=_;rw[c,Nat.one_mul];rfl
theorem GS{a:G}{d:F}{j:C t}{b:t}{o:F}{h:D}(r:∀b,(f b).l=w)(i:Ct (f b)=L)(E:o.I=f b)(p:AF a d f w j)(q:(j.l+1)*h<=Hs):∃g e,(∀(k:F×G->R),((CB 1 w a.next [o]).b λn=>(Eo w h (G.V a n.1) [d,n.2]).b k)=k (g,e))/\AF e g f w (j++[b])/\IC d a e/\(∀c,Lv a c->AE d c->AE g c):=by
 let⟨g,e,x,s,u,v⟩:=ZE (a:=[b]) r (p.ext (AR.V _ _):AF (a.V (.I w (f b))) d f w j) q
 refine⟨g,e,λk=> ?_,s,λc l i=> ?_,λc l i=>v c (l.V _) i⟩
 .rw[H (W6 a.next (by grind))];have z:Eo w h (a.V (.I w (f b))) [d,.Z a.next 0 1 2 w]=A (g,e):=by
   have y:HO (a.V (.I w (f b))) w 1 (.Z a.next 0 1 2 w)=A (f b):=by show An (Bb w w&&Co 1 1) (An (Bb 1 0) (A []) ((a.V (.I w (f b))).AU a.next 0 (1*w))) O=_;rw[AiG,Nat.one_mul,EA (I8 _ _),Af (by omega),Af B];rfl
   show(match HO (a.V (.I w (f b))) w 1 (.Z a.next 0 1 2 w)with|some m=>An (Ct m) (LA (a.V (.I w (f b))) w h d 1 m) O|none=>O)=_;grind
  grind
 .have:=u c P i;grind
theorem Vy(g:∀a,(f a).l=w):∀c:C _,I3 w c.l (c.f f)=c.m f
 |[]=>rfl
 |a::b=>by
  show(((a::b).f f).t w)::I3 w _ (((a::b).f f).d w)=_;have d:((a::b).f f).t w=f a:=by grind
  have e:((a::b).f f).d w=b.f f:=by grind
  rw[d,e,Vy g b];rfl
theorem h3{a:G}{g:F}{b:C t}(k:∀i,(f i).l=w)(s:∀i,(f i).all Im=L)(m:AF a g f w b):∃d,Dq a g=A (Z f b,d)/\IC g a d/\(∀c,AE g c->d.N c=a.N c)/\d.next=a.next:=by
 rcases m with⟨rfl,rfl⟩|⟨l,p,rfl,q,n,r⟩;.exact⟨a,B,λc e _=>⟨B,e⟩,λ_ _=>B,B⟩
 .by_cases j:b.l=0;.have:=Aju.1 j;subst this;exact⟨a,B,λc e _=>⟨B,e⟩,P,B⟩
  .have o:((b.f f).d 0).t (b.l*w)=b.f f:=by
    rw[AiE,AiX (by rw[N2 k];grind)]
   refine⟨a.set l (.rc (b.l*w) (b.f f)),?_,?_,?_,G.M5 _ _ _⟩
   .rw[h4 (by rw[n];rfl) j (by omega) (by grind),o,Vy k];rfl
   .intro c e h;refine⟨?_,by grind⟩;rw[AY,Ad h.ne]
   .intro c h;rw[AY,Ad h.ne]
end
attribute [grind->] IC.N IC.lv
def P7(a:D)(b:Aa):CB 0 a b []=A (.I 0 [],.Z b 0 0 1 a):=by show A (Ce.I (0*a) [],F.Z b 0 0 1 a)=_;grind
def UM{d:Type}(a:G)(c:d->C _)(b:D):AF (a.V (.I 0 [])) (.Z a.next 0 0 1 b) c b ([]):=
 .j ⟨a.next,1,B,P,by grind,P⟩
variable{a b:D}
def EI(c:b*a<=100000000000):b*a<=Hs:=c
variable{d:D}
def G9{b:G}{e:Aa}{c:D}{f:C F}{a:F}(i:b.N e=A (.I c f))(j:d+1<=c)(m:c≠1)(k:a.I=[a])(l:FX a=L):A1 1 b [.p e d,a]=A (Ax,b.set e (.I c (DJ d [a] f))):=by
 show An _ (match b.EY e d 1 a.I with|some h=>A (Ax,h)|none=>O) O=_;have g:Ct [a]=L:=by rw[EC];grind
 rw[k,L8 (by rw[i];rfl),Af j,Ad Om,g];rfl
def me{a:G}{b:Aa}{d:Ce}(e:a.N b=A d)(c:Aa):(a.set b d).N c=a.N c:=by rw[AY];grind
def cs(a:C AH)(g:a.l<1000000000):A2 65 [Z AH.c a] (Z AH.c a):=by
 let⟨h,e,b,d,_,_⟩:=UK (w:=2) (a:=a) (j:=16) (λ_=>B) (λ_=>B) (UM G.Az AH.c 2) (EI (by grind))
 let⟨f,c,_⟩:=h3 (w:=2) (λ_=>B) (λ_=>B) d
 refine FN B B ?_ c;rw[wK,H (P7 2 _),H b]
def H9(a:Ab)(b:F):C F:=[.s a.Bk,.n a.Ap,b,Z AH.c a.A6,Z AH.c a.Bs]
structure Ve(f:Ab)(c d e:Aa)(a:G)(b:F)(g:C AD):Prop where
 hB:a.N c=A (.I 5 (Ab.c f))
 hO:a.N d=A (.I 5 (H9 f b))
 hR:a.N e=A (.I 5 [(.s []),(.n 0),.sn,.sn,.sn])
 lB:Lv a c
 lO:Lv a d
 lR:Lv a e
 o:AF a b AD.c 4 g
 aB:AE b c
 aO:AE b d
 aR:AE b e
variable{f:D}{g:Type}
def CS{b:G}{a:F}{c:g->C _}{e:C _}(d:AF b a c f e):a.I=[a]/\FX a=L:=by rcases d with⟨rfl,_⟩|⟨h,i,rfl,_⟩<;>exact⟨B,B⟩
variable{e:G}
def oU{g:Ab}{l:D}{d:AD}(t:g.Ay[l]? =A d)(s:g.CA){i c j:Aa}(E:i≠c)(I:j≠c){u:F}{p:C AD}(T:p.l=l)(a:Ve g i c j e u p):∃k r,jj W9 30 4 [.n l,.p i 0,.p c 0,.p j 0] e=jj W9 30 3 [.n l,.p i 0,.p c 0,.p j 0] r/\Ve g i c j r k (p++[d]):=by
 have S:=(Aid.1 t).1;have U:=s.1;have b:AR e (e.V (.I 4 (AD.c d))):=AR.V _ _;have M:A1 1 (e.V (.I 4 (AD.c d))) [.p e.next 3,Z AH.c d.AT]=A (Ax,e.V (.I 4 (AD.c d))):=by rw[G9 (I8 _ _) (by omega) (by omega) B B,W_];rfl
 have J:(e.V (.I 4 (AD.c d))).AA c 2=A u:=by rw[AJ ((b.N a.lO).t a.hO)];rfl
 let⟨k,n,z,q,h,m⟩:=GS (f:=AD.c) (o:=.S (AD.c d)) (h:=56) (λ_=>B) B B (a.o.ext b) (EI (by omega))
 have W:=h.lv (b.lv a.lB) a.aB;have X:=h.lv (b.lv a.lO) a.aO;have Y:=h.lv (b.lv a.lR) a.aR;have v:=m i (b.lv a.lB) a.aB;have w:=m c (b.lv a.lO) a.aO;have x:=m j (b.lv a.lR) a.aR;have N:A1 1 n [.p c 2,k]=A (Ax,n.set c (.I 5 (H9 g k))):=by rw[G9 ((h.N (b.lv a.lO) a.aO).t ((b.N a.lO).t a.hO)) (by omega) (by omega) (CS q).1 (CS q).2];rfl
 refine⟨k,n.set c (.I 5 (H9 g k)),?_,?_⟩;.rw[Un.2.2.2.1];simp only[Q,QD,H (AJ a.hB 2),H (TA t),(cs d.AT (by have:=(s.2.2.2.2.2 d P).1;omega)).H B,H M,H J,z,H N]
 .exact{
  hB:=by rw[AY,Ad E];exact((h.N (b.lv a.lB) a.aB).t ((b.N a.lB).t a.hB))
  hO:=by rw[AY,Af B]
  hR:=by rw[AY,Ad I];exact((h.N (b.lv a.lR) a.aR).t ((b.N a.lR).t a.hR))
  lB:=by grind
  lO:=by grind
  lR:=by grind
  o:=q.Av λxa V R=>⟨by rw[AY,Ad P],by grind⟩
  aB:=v,aO:=w,aR:=x}
def Aan{b:Ab}(o:b.CA){h d f:Aa}(x:h≠d)(y:f≠d):∀g a e j,b.Ay.l-a=g->a<=b.Ay.l->Ve b h d f e j (b.Ay.t a)->∃E n,jj W9 30 2 [.p h 0,.n a,.p d 0,.p f 0] e=jj W9 30 1 [.p d 0,.p f 0] n/\Ve b h d f n E b.Ay:=by
 have M:=o.1
 intro g
 induction g with
 |zero=>
  intro a e j t u c;have k:¬(a:K)<b.Ay.l:=by omega
  rw[AiX (by omega)]at c;refine⟨j,e,?_,c⟩;rw[Un.2.2.1];simp only[Q,QC,H (AJ c.hB 2),k,reduceIte]
 |succ g w=>
  intro a e j t u c;have k:a<b.Ay.l:=by omega
  let⟨I,v,N⟩:=Eh (b:=b.Ay) (a:=a) (by omega)
  let⟨F,r,q,m⟩:=oU v o x y (by grind) c
  have z:b.Ay.t a++[I]=b.Ay.t (a+1):=by grind
  rw[z]at m;let⟨G,s,J,p⟩:=w (a+1) r F (by omega) (by omega) m
  refine⟨G,s,?_,p⟩;rw[Un.2.2.1];simp only[Q,QC,H (AJ c.hB 2),k,reduceIte];rw[q,Un.2.2.2.2];simp only[Q,H (BF (a:=a) (by omega))];grind
def R1(a:G->F->Aj (F×G))(b:G)(c:F)(d:C F):Df a b (c::d)=(a b c).b λe=>(Df a e.2 d).b λf=>A (e.1::f.1,f.2):=by show(match a b c with|none=>O|some (i,g)=>(match Df a g d with|none=>O|some (j,h)=>A (i::j,h)))=_;grind
variable{c:G}
def sG{d b:C F}{a:G}(e:Df (DI 39) c d=A (b,a)):Dq c (.S d)=A (.S b,a):=by show(match Df (DI 39) c d with|some (b,a)=>A (F.S b,a)|none=>O)=_;grind
def sE{l:Type}{c:l->C F}(k:D){b:G}{g:F}{a:C l}(j:∀h,(c h).l=d)(u:∀h,(c h).all Im=L)(n:AF b g c d a):∃f,DI (k+2) b g=A (Z c a,f)/\(∀e,AE g e->f.N e=b.N e)/\f.next=b.next:=by
 rcases n with⟨rfl,rfl⟩|⟨m,r,rfl,s,o,t⟩;.exact⟨b,B,P,B⟩
 .by_cases i:a.l=0;.have:=Aju.1 i;subst this;exact⟨b,B,P,B⟩
  .have q:((a.f c).d 0).t (a.l*d)=a.f c:=by
    rw[AiE,AiX (by rw[N2 j];grind)]
   refine⟨b.set m (.rc (a.l*d) (a.f c)),?_,?_,G.M5 _ _ _⟩
   .show An _ _ _=_;rw[G0 i,o];show An _ _ O=_;rw[Air (by omega),q,O3 k b P];show A (F.CZ (I3 d a.l (a.f c)),_)=_;rw[Vy j];rfl
   .intro e p;rw[AY,Ad p.ne]
def ul(a:Ab)(g:a.CA):A2 30 [.S (Ab.c a)] (.S (Ab.c a)):=by
 have t:=g.2.1;have u:=g.2.2.1;have l:BE [(.s []),(.n 0),.sn,.sn,.sn] [(0,1),(1,1),(3,1),(4,1)] [.s a.Bk,.n a.Ap,Z AH.c a.A6,Z AH.c a.Bs]=A (.S (H9 a .sn)):=B;have d:Ve a .h (.i .h) (.o .h) (((G.Az.V (.I 5 (Ab.c a))).V (.I 5 [.s [],.n 0,.sn,.sn,.sn])).V (.I 5 (H9 a .sn))) .sn (a.Ay.t 0):={
  hB:=B,hO:=B,hR:=B,lB:=((GD G.Az _).V _).V _,lO:=GD _ _,lR:=(GD (G.Az.V _) _).V _,o:=AF.sn _,aB:=CM _,aO:=CM _,aR:=CM _}
 let⟨b,c,e,d⟩:=Aan g (by grind) (by grind) a.Ay.l 0 _ _ (by omega) (by omega) d
 rw[show((0:D):K)=0 from B]at e;have s:Bf 5 c [.p (.i .h) 0]=A (.S (H9 a b)):=by rw[Gk,EA d.hO,Af B];rfl
 have i:Ct (H9 a b)=L:=by rw[EC];unfold H9;simp[(CS d.o).2]
 have z:A1 5 c [.p (.o .h) 0,.S (H9 a b)]=A (Ax,c.set (.o .h) (.I 5 (H9 a b))):=by show An (An (Bb (BK (H9 a b)) 5) (Ct (H9 a b)) Ac) (match c.EY (.o .h) 0 5 (H9 a b)with|some m=>A (Ax,m)|none=>O) O=_;rw[L8 (by rw[d.hR];rfl),i];rfl
 have x:Bf 5 (c.set (.o .h) (.I 5 (H9 a b))) [.p (.o .h) 0]=A (.S (H9 a b)):=by rw[Gk,EA (by rw[AY,Af B]),Af B];rfl
 let⟨f,h,_⟩:=sE (d:=4) 37 (λ_=>B) (λ_=>B) (d.o.Av λy v n=>⟨by rw[AY,Ad (λe=>by subst e;exact n d.aR)],by grind⟩:AF (c.set (.o .h) (.I 5 (H9 a b))) b AD.c 4 a.Ay)
 refine FN B B (e:=.S (H9 a b)) (c:=c.set (.o .h) (.I 5 (H9 a b))) ?_ (h:=f) ?_
 .have p:G.Az.next=.h:=B;have q:(G.Az.V (.I 5 (Ab.c a))).next=.o .h:=B
  have r:((G.Az.V (.I 5 (Ab.c a))).V (.I 5 [.s [],.n 0,.sn,.sn,.sn])).next=.i .h:=B
  rw[Un.1];simp only[Q,QD,(cs a.A6 (by omega)).H B,(cs a.Bs (by omega)).H B,H l,QS,H (FL B B:A1 5 (((G.Az.V (.I 5 (Ab.c a))).V (.I 5 [.s [],.n 0,.sn,.sn,.sn])).V (.I 5 [.s [],.n 0,.sn,.sn,.sn])) [.p ((G.Az.V (.I 5 (Ab.c a))).V (.I 5 [.s [],.n 0,.sn,.sn,.sn])).next 0,.S (H9 a .sn)]=A (Ax,(((G.Az.V (.I 5 (Ab.c a))).V (.I 5 [.s [],.n 0,.sn,.sn,.sn])).V (.I 5 (H9 a .sn)))))];rw[p,q,r,e,Un.2.1];grind
 .refine sG ?_;unfold H9;have j:DI 39 (c.set (.o .h) (.I 5 [.s a.Bk,.n a.Ap,b,Z AH.c a.A6,Z AH.c a.Bs])) (.s a.Bk)=A (.s a.Bk,c.set (.o .h) (.I 5 [.s a.Bk,.n a.Ap,b,Z AH.c a.A6,Z AH.c a.Bs])):=B;have k:DI 39 (c.set (.o .h) (.I 5 [.s a.Bk,.n a.Ap,b,Z AH.c a.A6,Z AH.c a.Bs])) (.n a.Ap)=A (.n a.Ap,c.set (.o .h) (.I 5 [.s a.Bk,.n a.Ap,b,Z AH.c a.A6,Z AH.c a.Bs])):=B;unfold H9 at h;rw[R1,j,Aig,R1,k,Aig,R1,h,Aig,(B:Df (DI 39) f [Z AH.c a.A6,Z AH.c a.Bs]=A ([Z AH.c a.A6,Z AH.c a.Bs],f))];rfl
def kb{j:Type}{d:D}{g:D->j->G->R}{h:D->j->G->Prop}(l:∀a c b,a<d->h a c b->∃f e,g a c b=g (a+1) f e/\h (a+1) f e):∀i a c b,d-a=i->a<=d->h a c b->∃f e,g a c b=g d f e/\h d f e
 |0,a,c,b,p,o,k=>by
  have:a=d:=by omega
  subst this;grind
 |i+1,a,c,b,p,o,k=>by
  let⟨q,n,s,m⟩:=l a c b (by omega) k
  let⟨v,u,t,r⟩:=kb l i (a+1) q n (by omega) (by omega) m
  grind
variable{h:D}{i:Type}
def Ez{f:D->i->G->R}{g:D->i->G->Prop}(k:∀d b a,d<h->g d b a->∃e c,f d b a=f (d+1) e c/\g (d+1) e c){b:i}{a:G}(j:g 0 b a):∃e c,f 0 b a=f h e c/\g h e c:=
 kb k h 0 b a (by omega) (by omega) j
def Dx(c:a<b):(a:K)<b:=by omega
def Dz(a:D):¬(a:K)<a:=by omega
def Gv{e:Type}{b:C _}{c:e}(d:b[a]? =A c):b.t a++[c]=b.t (a+1):=by rw[List.take_add_one,d];rfl
def HV{b:Type}(a:C b):a.t a.l=a:=AiX (C6 _)
def Bo{d:Type}{b:C d}(e:a<b.l):∃c,b[a]? =A c:=⟨b[a],by grind⟩
def g7(a:C Ab)(o:CA a):A2 9 [Z Ab.c a] (Z Ab.c a):=by
 have z:=o.1;let⟨c,b,g,e⟩:=Ez (h:=a.l) (f:=λd c b=>jj W9 9 2 [Z Ab.c a,.n d,c] b) (g:=λd c b=>AF b c Ab.c 5 (a.t d))
  (λd c b m e=>by
   let⟨k,j⟩:=Bo m
   have r:=ul k (VL o j);let⟨u,t,E,p,_⟩:=GS (f:=Ab.c) (b:=k) (o:=.S (Ab.c k)) (h:=96) (λ_=>B) B B e (EI (by grind))
   rw[Gv j]at p;refine⟨u,t,?_,p⟩;have l:=Dx m;show jj W9 9 2 _ _=jj W9 9 2 _ _;rw[Ut.2.2.1];simp only[QY,Ut.2.2.2.1,H (Da j),r.H B,Ut.2.2.2.2,H (BF (a:=d) (by omega)), *])
  (b:=.sn) (a:=G.Az) (AF.sn _)
 rw[HV]at e;let⟨v,q,_⟩:=h3 (f:=Ab.c) (w:=5) (λ_=>B) (λ_=>B) e
 refine FN B B (e:=c) (c:=b) ?_ q;have l:=Dz a.l;have g:jj W9 9 2 [Z Ab.c a,.n 0,.sn] G.Az=jj W9 9 2 [Z Ab.c a,.n a.l,c] b:=g;rw[Ut.1];simp only[↓Q,g];rw[Ut.2.2.1];simp only[↓Q,↓QC,l,↓reduceIte,Ut.2.1]
def Y1{b:C _}{c:K}(d:b[a]? =A c):AZ 1 [Z Bq b,.n a]=A (.pi (Bq c)):=Fi d B
def Kg{b:C (C K)}{c:C K}(d:b[a]? =A c):AZ 1 [Z CG b,.n a]=A (.pi (CG c)):=Fi d B
def XZ{b:C _}{c:Ak}(d:b[a]? =A c):AZ 1 [Z Db b,.n a]=A (.pi (Db c)):=Fi d B
theorem Wh(b:G)(a:C K):AW b [.pi (CG a)]=A (Z Bq a):=rfl
def AS.CA(a:AS):Prop:=a.l.l<2000000/\a.BO.l<2000000/\∀b∈a.l,b.l<2000000
def F2(c d:G):Prop:=(∀b a f,Eg (c.N b)=A (a,f)->Eg (d.N b)=A (a,f))/\(∀b a e,Ir (c.N b)=A (a,e)->Ir (d.N b)=A (a,e))
def F2.refl(a:G):F2 a a:=⟨P,P⟩
def F2.AQ{f g:G}(h:F2 e f)(i:F2 f g):F2 e g:=⟨λc b a d=>i.1 c b a (h.1 c b a d),λc b a d=>i.2 c b a (h.2 c b a d)⟩
def F2.rc{e:Aa}{g:C F}(b:Eg (c.N e)=A (h,g)):F2 c (c.set e (.rc h g)):=by
 constructor
 .intro i j m a;rw[AY];split;.rename_i d;subst d;rw[b]at a;exact a
  omega
 .intro i j l a;rw[AY];split
  .rename_i d;subst d
   exfalso
   cases f:c.N i with
   |none=>rw[f]at b;cases b
   |some k=>rw[f]at b a;cases k<;>first|(cases b;done)|(cases a;done)
  omega
def Fz(e:D)(c:G)(g d:F):Prop:=∀f a,F2 c a->∃b,DI (f+e) a g=A (d,b)/\F2 a b
def CI(e:D)(c:G)(g d:C F):Prop:=∀f a,F2 c a->∃b,Df (DI (f+e)) a g=A (d,b)/\F2 a b
def Fz.im{a:F}(d:Im a=L):Fz 1 c a a:=λe b _=>⟨b,VQ e b d,F2.refl _⟩
def Fz.sn(a:G):Fz 1 a .sn (.CZ []):=λc b _=>⟨b,B,F2.refl _⟩
def Fz.up{e d:F}(g:Fz a c e d)(m:a<=b):Fz b c e d:=λh f i=>by
 let⟨j,k,l⟩:=g (h+(b-a)) f i
 grind
def CI.nil(c:D)(a:G):CI c a [] []:=λd b _=>⟨b,B,F2.refl _⟩
def CI.cons{a:G}{h d:F}{i e:C F}(n:Fz b a h d)(o:CI b a i e):CI b a (h::i) (d::e):=λf p g=>by
 let⟨q,k,c⟩:=n f _ g
 let⟨j,l,m⟩:=o f _ (g.AQ c)
 exact⟨j,by rw[R1,k,Aig,l];rfl,c.AQ m⟩
def b8(a:G->F->Aj (F×G)):∀f c b,Df a b (f++c)=(Df a b f).b λe=>(Df a e.2 c).b λd=>A (e.1++d.1,d.2)
 |[],c,b=>by show Df a b c=(Df a b c).b λd=>A ([]++d.1,d.2);cases Df a b c<;>rfl
 |g::f,c,b=>by
  rw[List.cons_append,R1,R1]
  cases a b g with
  |none=>rfl
  |some e=>
   rw[Aig,Aig,b8 a _ _]
   cases Df a _ _ with
   |none=>rfl
   |some d=>rw[Aig];show _=(Df a _ _).b _;cases Df a _ _<;>rfl
def CI.EK{a:G}{h c i d:C F}(o:CI b a h c)(q:CI b a i d):CI b a (h++i) (c++d):=by
 intro e j f;let⟨k,m,g⟩:=o e j f
 let⟨l,n,p⟩:=q e k (f.AQ g)
 refine⟨l,?_,g.AQ p⟩;rw[b8,m,Aig,n];rfl
inductive Ge{b c:Type}(a:b->c->Prop):C b->C c->Prop where
 |nil:Ge a [] []
 |cons {f:b} {g:c} {d:C b} {e:C c} (h:a f g) (i:Ge a d e):Ge a (f::d) (g::e)
def Ge.AX{f:Type}{c:f->g->Prop}{a:C _}{b:C _}(d:Ge c a b):a.l=b.l:=by
 induction d with
 |nil=>rfl
 |cons _ _ e=>rw[AiD,AiD,e]
def Ge.Xe{h:Type}{a:g->h->Prop}{c:C _}{d:C _}{e:g}{f:h}(b:Ge a c d)(j:a e f):Ge a (c++[e]) (d++[f]):=by
 induction b with
 |nil=>exact .cons j .nil
 |cons b _ i=>exact .cons b i
def Ge.imp{j k:Type}{b c:j->k->Prop}{d:C _}{e:C _}(a:Ge b d e)(i:∀f g,b f g->c f g):Ge c d e:=by
 induction a with
 |nil=>exact .nil
 |cons a _ h=>exact .cons (i _ _ a) h
def CI.Nu{c:G}:∀{a:C _},a.all Im=L->CI 1 c a a
 |[],_=>CI.nil 1 c
 |d::a,b=>by rw[AiK,Aie]at b;exact CI.cons (Fz.im b.1) (CI.Nu b.2)
def CI.b2{h:Type}{a:G}{d:i->C F}{e:h->C F}{f:C h}{g:C i}(c:Ge (λk l=>CI b a (d k) (e l)) g f):CI b a (g.f d) (f.f e):=by
 induction c with
 |nil=>exact CI.nil b a
 |cons c m j=>rw[AiV];exact CI.EK c j
def Fz.Z{i:G}{d:Aa}{v c:D}{t m e:C F}(y:Eg (i.N d)=A (b,e))(z:f+a*c<=b)(E:(e.d f).t (a*c)=t)(x:CI h i t m):Fz (h+1) i (.Z d f a v c) (.CZ (I3 c a m)):=by
 intro k g r;by_cases n:a=0;.subst n;exact⟨g,B,F2.refl _⟩
 have o:=r.1 d b e y;let⟨u,w,s⟩:=x k g r
 refine⟨u.set d (.rc b e),?_,s.AQ (F2.rc (s.1 d b e o))⟩;show An (Bb a 0) _ (match Eg (g.N d)with|some (b,q)=>An (Co (f+a*c) b) (match Df (DI (k+h)) g ((q.d f).t (a*c))with|some (l,j)=>A (F.CZ (I3 c a l),j.set d (.rc b q))|none=>O) O|none=>O)=_;rw[G0 n,o];show An (Co (f+a*c) b) (match Df (DI (k+h)) g ((e.d f).t (a*c))with|some (l,j)=>A (F.CZ (I3 c a l),j.set d (.rc b e))|none=>O) O=_;rw[Air z,E,w];rfl
def Fz.Na{r s:Type}{j:D}{h:Aa}{i:D}{b:C s}{q:C r}{f:s->C F}{g:r->C F}(v:∀a,(f a).l=d)(u:∀a,(g a).l=d)(t:Eg (e.N h)=A (b.l*d,b.f f))(l:Ge (λa x=>CI j e (f a) (g x)) b q):Fz (j+1) e (.Z h 0 b.l i d) (YtmnfpdedgnfeiaaGreat.Z g q):=by have m:=l.AX;have k:=Fz.Z (v:=i) (f:=0) (c:=d) (a:=b.l) t (by omega) (by rw[AiE,AiX (by rw[N2 v];grind)]) (CI.b2 l);rw[m,Vy u]at k;rw[m];exact k
def Fz.CC{m:Type}{g:F}{b:m->C _}{d:C _}(f:∀a,(b a).l=h)(k:∀a,(b a).all Im=L)(i:AF c g b h d):Fz 2 c g (YtmnfpdedgnfeiaaGreat.Z b d):=by
 rcases i with⟨rfl,rfl⟩|⟨n,o,rfl,j,e,_⟩;.exact(Fz.sn c).up (by omega)
 .refine Fz.Na f f (by rw[e];rfl) ?_
  clear e j
  induction d with
  |nil=>exact .nil
  |cons a q l=>exact .cons (CI.Nu (k a)) l
def Fz.SL{l m:Type}{a:G}{k:F}{c:m->C _}{d:l->C F}{j:C m}{i:C l}(v:1<=b)(s:∀e,(c e).l=f)(q:∀g,(d g).l=f)(n:AF a k c f j)(h:Ge (λe g=>CI b a (c e) (d g)) j i):Fz (b+1) a k (YtmnfpdedgnfeiaaGreat.Z d i):=by
 rcases n with⟨rfl,r⟩|⟨t,u,rfl,_,o,_⟩;.have:=Aju.1 (by rw[<-h.AX,r];rfl);subst this;exact(Fz.sn a).up (by omega)
 .exact Fz.Na s q (by rw[o];rfl) h
def Fz.S{b e:C F}(i:CI a c b e):Fz (a+1) c (.S b) (.S e):=λf d l=>by
 let⟨g,h,m⟩:=i f d l
 refine⟨g,?_,m⟩;show(match Df (DI (f+a)) d b with|some (k,j)=>A (F.S k,j)|none=>O)=_;rw[h]
def Fz.AC{b e:C F}(i:CI a c b e):Fz (a+1) c (.AC b) (.AC e):=λf d l=>by
 let⟨g,h,m⟩:=i f d l
 refine⟨g,?_,m⟩;show(match Df (DI (f+a)) d b with|some (k,j)=>A (F.AC k,j)|none=>O)=_;rw[h]
def Fz.Dq{b:G}{f e:F}(h:Fz a b f e)(i:a<=40):∃c,Go.Fg.Dq b f=A (e,c)/\F2 b c:=by
 let⟨c,d,g⟩:=h (40-a) b (F2.refl _)
 rw[show 40-a+a=40 by omega]at d;exact⟨c,d,g⟩
def Fz.Qr{c:D}{b:C F}{f e:F}{d:G}(l:LO a)(k:KJ (Ar a)=Ac)(g:xx W9 a b G.Az=A (f,d))(i:Fz c d f e)(j:c<=40):A2 a b e:=by
 let⟨m,h,_⟩:=i.Dq j
 exact FN l k g h
def NZ(a:F):C F:=[a]
def NV{c:Type}(d:c->C F)(h:D)(f:C Aa)(e:G)(g:F)(b:F)(i:C c):Prop:=AF e b d h i/\(∀a,¬AE b a->AE g a)/\∀a∈f,AE b a
def NV.Av{x:Type}{k:x->C _}{n:C Aa}{d:G}{g p o:F}{q:C _}(r:NV k h n d g o q)(b:IC g d e)(y:∀a,Lv d a->AE g a->AE p a):NV k h n e p o q:=by
 let⟨w,v,m⟩:=r
 rcases w with⟨rfl,rfl⟩|⟨c,j,rfl,s,t,l⟩;.exact⟨AF.sn e,λa f=>A_ (CM a) f,m⟩
 .have i:=v c (λu=>u 0 _ j h B);refine⟨.j ⟨c,j,B,s,(b.N l i).t t,b.lv l i⟩,λa f=> ?_,m⟩;by_cases b:c=a;.grind
  .exact A_ (Fe b) f
def AF.n1{a:G}{b:F}{d:i->C _}{f:C _}(g:AF a b d h f):AE b a.next:=by
 rcases g with⟨rfl,_⟩|⟨j,k,rfl,_,_,e⟩;.exact CM _
 .exact Fe λc=>by subst c;exact FO a e
structure XB(g:AS)(d e f:Aa)(a:G)(b:F)(i:C F)(c:F)(j:D):Prop where
 hI:a.N d=A (.I 2 (AS.c g))
 hO:a.N e=A (.I 2 [b,c])
 hR:a.N f=A (.I 2 [.sn,.sn])
 lI:Lv a d
 lO:Lv a e
 lR:Lv a f
 o:AF a b NZ 1 i
 all:Ge (NV Bq 1 [d,e,f] a b) i (g.l.t j)
 aI:AE b d
 aO:AE b e
 aR:AE b f
 ow:AF a c Db 1 g.BO
 aw:∀h,¬AE c h->AE b h
 wI:AE c d
 wO:AE c e
 wR:AE c f
def oW{g:AS}{n:D}{z:C K}(v:g.l[n]? =A z)(X:g.CA){h b i:Aa}(xh:h≠b)(xi:i≠b){k:G}{t p:F}{y:C F}(a:XB g h b i k t y p n):∃j f V,jj W9 10 4 [.n n,.p h 0,.p b 0,.p i 0] k=jj W9 10 3 [.n n,.p h 0,.p b 0,.p i 0] V/\XB g h b i V j (y++[f]) p (n+1):=by
 have xn:=(Aid.1 v).1;have xq:=X.1;have xr:=X.2.2 z (Ail v);have xp:y.l=n:=by rw[a.all.AX,AiH];omega
 have E:AR k (k.V (.I 0 [])):=AR.V _ _;let⟨f,u,xt,J,xd,xb⟩:=UK (w:=1) (a:=z) (j:=8) (λ_=>B) (λ_=>B) (UM k Bq 1) (EI (by grind))
 have e:AR k u:=λc d=>by have:=xd c (E.lv d) (Fe λs=>by subst s;exact FO k d);grind
 have N:=λc d=>xb c (E.lv d) (Fe λs=>by subst s;exact FO k d);have xk:BV .Dg [.p b 0] u t=L:=by show KT (u.AA b 0) t=L;rw[AJ ((e.N a.lO).t a.hO)];exact NR _
 let⟨j,m,xg,I,l,q⟩:=GS (w:=1) (b:=f) (h:=24) (λ_=>B) (by rw[EC];simp[NZ,(CS J).2]) (CS J).1 (a.o.ext e) (EI (by grind))
 have S:=q b (e.lv a.lO) a.aO;have xu:A1 1 m [.p b 0,j]=A (Ax,m.set b (.I 2 [j,p])):=by rw[G9 ((l.N (e.lv a.lO) a.aO).t ((e.N a.lO).t a.hO)) (by omega) (by omega) (CS I).1 (CS I).2];rfl
 have xl:NV Bq 1 [h,b,i] u t f z:=by
  refine⟨J,λc d=> ?_,?_⟩
  rotate_left
  .intro c d;simp only[Ait,Ai6,Ai7]at d;rcases d with rfl|rfl|rfl;.exact N _ a.lI
   .exact N _ a.lO
   .exact N _ a.lR
  by_cases xo:Lv k c
  .grind
  .rcases a.o with⟨rfl,_⟩|⟨T,xc,rfl,_,_,xe⟩;.exact CM c
   .exact Fe P
 have M:∀{xa:Type}{U:xa->C F}{Z:D}{R:F}{Y:C xa},AF m R U Z Y->AE R b->AF (m.set b (.I 2 [j,p])) R U Z Y:=λxj xm=>xj.Av λc d W=>⟨by rw[AY,Ad P],by grind⟩;refine⟨j,f,m.set b (.I 2 [j,p]),?_,?_⟩;.rw[Ua.2.2.2.1];simp only[Q,H (AJ a.hO 0),H (P7 1 _),H (AJ ((E.N a.lI).t a.hI) 0),H (Kg v),H (Wh _ _),xk,MP,xg,ZR, *]
 .have xf:Ge (NV Bq 1 [h,b,i] m j) (y++[f]) (g.l.t (n+1)):=by
   rw[<-Gv v]
   exact(a.all.imp (λf g r=>(r.Av e.Yq P).Av l q:∀f g,NV Bq 1 [h,b,i] k t f g->NV Bq 1 [h,b,i] m j f g)).Xe (xl.Av l q)
  exact{
   hI:=by rw[AY,Ad xh];exact((l.N (e.lv a.lI) a.aI).t ((e.N a.lI).t a.hI))
   hO:=by rw[AY,Af B]
   hR:=by rw[AY,Ad xi];exact((l.N (e.lv a.lR) a.aR).t ((e.N a.lR).t a.hR))
   lI:=by rw[M3];exact l.lv (e.lv a.lI) a.aI
   lO:=by rw[M3];exact l.lv (e.lv a.lO) a.aO
   lR:=by rw[M3];exact l.lv (e.lv a.lR) a.aR
   o:=M I S
   all:=xf.imp (λf g r=>⟨M r.1 (r.2.2 b (by simp)),r.2⟩:∀f g,NV Bq 1 [h,b,i] m j f g->NV Bq 1 [h,b,i] (m.set b (.I 2 [j,p])) j f g)
   aI:=(q h (e.lv a.lI) a.aI),aO:=S,aR:=(q i (e.lv a.lR) a.aR)
   ow:=M ((a.ow.ext e).Av λc d W=>l c d (a.aw c W)) a.wO
   aw:=λc d=>q c (e.lv ((λc d=>by
  rcases a.ow with⟨rfl,_⟩|⟨T,xc,rfl,_,_,xe⟩
  .exact A_ (CM c) d
  .by_cases s:T=c
   .grind
   .exact A_ (Fe s) d:∀c,¬AE p c->Lv k c) c d)) (a.aw c d)
   wI:=a.wI,wO:=a.wO,wR:=a.wR}
def g8(c:AS)(q:c.CA):A2 10 [.S (AS.c c)] (.S (AS.c c)):=by
 have xx:=q.1;have xy:=q.2.1;let⟨a,d,r,y,l,P⟩:=UK (w:=1) (a:=c.BO) (j:=1) (λ_=>B) (λ_=>B) (UM ((G.Az.V (.I 2 (AS.c c))).V (.I 2 [.sn,.sn])) Db 1) (EI (by grind))
 have r:Eo 1 1 (((G.Az.V (.I 2 (AS.c c))).V (.I 2 [.sn,.sn])).V (.I 0 [])) [.Z (.i .h) 0 0 1 1,Z Db c.BO]=A (a,d):=r;have z:AE (.Z (.i .h) 0 0 1 1) .h:=Fe (by grind);have E:AE (.Z (.i .h) 0 0 1 1) (.o .h):=Fe (by grind);have t:Lv (((G.Az.V (.I 2 (AS.c c))).V (.I 2 [.sn,.sn])).V (.I 0 [])) .h:=((GD G.Az _).V _).V _;have u:Lv (((G.Az.V (.I 2 (AS.c c))).V (.I 2 [.sn,.sn])).V (.I 0 [])) (.o .h):=(GD (G.Az.V _) _).V _;have m:=l.lv t z;have n:=l.lv u E;have xm:=P _ t z;have xo:=P _ u E;have xn:=y.n1;have h:AR d (d.V (.I 2 [.sn,a])):=AR.V _ _;have v:Aa.h≠d.next:=λg=>by rw[g]at m;exact FO _ m
 have x:(Aa.o .h)≠d.next:=λg=>by rw[g]at n;exact FO _ n
 obtain⟨⟨f,xB⟩,b,g,e⟩:=Ez (f:=λj k b=>jj W9 10 2 [.p .h 0,.n j,.p d.next 0,.p (.o .h) 0] b) (g:=λj k b=>XB c .h d.next (.o .h) b k.1 k.2 a j)
  (λj k b T e=>by obtain⟨xp,xi⟩:=Bo T;obtain⟨xl,Y,p,g,xb⟩:=oW xi q v x e;refine⟨(xl,k.2++[Y]),p,?_,xb⟩;rw[Ua.2.2.1];simp only[Q,QC,H (AJ e.hI 0),QD,(Dx T),reduceIte,g,Ua.2.2.2.2,H (BF (a:=j) (by omega))])
  (b:=(.sn,[])) ({
  hI:=(h.N m).t (l.N t z),hO:=I8 _ _,hR:=(h.N n).t (l.N u E),lI:=h.lv m,lO:=GD _ _,lR:=h.lv n
  o:=AF.sn _,all:=.nil,aI:=CM _,aO:=CM _,aR:=CM _,ow:=y.ext h,aw:=λ_ _=>CM _,wI:=xm,wO:=xn,wR:=xo}:XB c .h d.next (.o .h) (d.V (.I 2 [.sn,a])) .sn [] a 0)
 have g:jj W9 10 2 [.p .h 0,.n 0,.p d.next 0,.p (.o .h) 0] (d.V (.I 2 [.sn,a]))=jj W9 10 2 [.p .h 0,.n c.l.l,.p d.next 0,.p (.o .h) 0] b:=g;have xe:=Dz c.l.l;have xc:Ct [f,a]=L:=by rw[EC];simp[(CS e.o).2,(CS e.ow).2]
 have xv:Bf 2 b [.p d.next 0]=A (.S [f,a]):=by rw[Gk,EA e.hO,Af (by omega),Af B];rfl
 have xA:A1 2 b [.p (.o .h) 0,.S [f,a]]=A (Ax,b.set (.o .h) (.I 2 [f,a])):=by show An (An (Bb (BK [f,a]) 2) (Ct [f,a]) Ac) (match b.EY (.o .h) 0 2 [f,a]with|some p=>A (Ax,p)|none=>O) O=_;rw[L8 (by rw[e.hR];rfl),Af (by omega),Af B,xc];rfl
 have xw:Bf 2 (b.set (.o .h) (.I 2 [f,a])) [.p (.o .h) 0]=A (.S [f,a]):=by rw[Gk,EA (by rw[AY,Af B]),Af (by omega),Af B];rfl
 have J:∀{xa:Type}{S:xa->C F}{X:D}{M:F}{W:C xa},AF b M S X W->AE M (.o .h)->AF (b.set (.o .h) (.I 2 [f,a])) M S X W:=λxk xq=>xk.Av λxz xu xt=>⟨by rw[AY,Ad (λg=>by grind)],by grind⟩;have N:=e.all;rw[HV]at N;have xg:=N.imp λY xp U=>by have:=Fz.CC (h:=1) (λ_=>B) (λ_=>B) (J U.1 (U.2.2 _ (by simp)));exact CI.cons this (CI.nil _ _)
 have xh:=Fz.SL (f:=1) (by omega) (λ_=>B) (λ_=>B) (J e.o e.aR) xg;refine Fz.Qr B B ?_ (Fz.S (CI.cons xh (CI.cons ((Fz.CC (h:=1) (λ_=>B) (λ_=>B) (J e.ow e.wR)).up (by omega):Fz 3 (b.set (.o .h) (.I 2 [f,a])) a (Z Db c.BO)) (CI.nil _ _)))) (by omega);have xj:G.Az.next=.h:=B;have v:(G.Az.V (.I 2 (AS.c c))).next=.o .h:=B
 have x:((G.Az.V (.I 2 (AS.c c))).V (.I 2 [.sn,.sn])).next=.i .h:=B
 have xf:BE [.sn,.sn] [(1,1)] [a]=A (.S [.sn,a]):=by rcases y with⟨rfl,_⟩|⟨xr,xe,rfl,_⟩<;>rfl
 have xd:Ct [.sn,a]=L:=by rw[EC];simp[(CS e.ow).2]
 rw[Ua.1,(λ_ _=>B:∀(b:G)(V:F->G->R),bl (.p b.next 0) (b.V (.I (BK (F.I (.S (AS.c c)))) (F.I (.S (AS.c c))))) V=V (.p b.next 0) (b.V (.I 2 (AS.c c))))];simp only[↓Q,↓QD,↓H (P7 1 _),xj,v,x];rw[H r,H xf];simp only[QY,(FL B xd:A1 2 (d.V (.I 2 [.sn,.sn])) [.p d.next 0,.S [.sn,a]]=A (Ax,d.V (.I 2 [.sn,a])))];rw[g,Ua.2.2.1];simp only[QY,H (AJ e.hI 0),Ua.2.1, *]
def to(d:C Ab)(y:CA d):∃R S:K,A2 45 [Z Ab.c d] (.AC [.n R,.n S,.n (DR d)]):=by
 have xg:=y.1;have J:=iw d y;have w:=FW .n (DR d) 0;by_cases v:DR d=0
 .have xb:∀(c:D)(g:Ab),d[c]? =A g->∀(o:G)(f e:K),0<=f->f<=c*1000000->0<=e->e<=c*1000000000000->∃t j,jj W9 45 7 [.n f,.n c,Z Ab.c d,.n e] o=jj W9 45 3 [.n c,Z Ab.c d,.n t,.n j] o/\0<=t/\t<=(c+1)*1000000/\0<=j/\j<=(c+1)*1000000000000:=by
   intro c g q o f e xd xe V xf
   have M:=VL y q
   have x:=(Aid.1 q).1
   have xh:=M.1
   let⟨j,k,m,p⟩:=Ez (h:=g.Ay.l) (f:=λu e o=>jj W9 45 4 [.n u,.n c,Z Ab.c d,.n (f+g.Ay.l),.n e] o) (g:=λu j k=>k=o/\0<=j/\j<=c*1000000000000+u*1000000)
    (λu e k N p=>by
     obtain⟨rfl,T,U⟩:=p;let⟨z,P⟩:=Bo N
     have xi:=(M.2.2.2.2.2 z (Ail P)).1;have r:=Dx N;have E:=GJ (a:=e) (b:=z.AT.l) (by omega) (by omega);refine⟨e+z.AT.l,k,?_,B,by omega,by omega⟩;show jj W9 45 4 _ _=jj W9 45 4 _ _;rw[MZ.2.2.2.2.2.2.1];simp only[QY,H (Da q),MZ.2.2.2.2.2.2.2.1,H (TA P),MZ.2.2.2.2.2.2.2.2,H (BF (a:=u) (by omega)), *])
    (b:=e) (a:=o) ⟨B,V,by omega⟩
   obtain⟨rfl,T,U⟩:=p
   have m:jj W9 45 4 [.n 0,.n c,Z Ab.c d,.n (f+g.Ay.l),.n e] k=jj W9 45 4 [.n g.Ay.l,.n c,Z Ab.c d,.n (f+g.Ay.l),.n j] k:=m
   have r:=Dz g.Ay.l
   have E:=GJ (a:=f) (b:=g.Ay.l) (by omega) (by omega)
   refine⟨f+g.Ay.l,j,?_,by omega,by omega,by omega,by omega⟩
   rw[MZ.2.2.2.2.1]
   simp only[QY,Da q,E]
   rw[m,MZ.2.2.2.2.2.2.1]
   simp only[↓Q,↓QC,↓QD,↓H (Da q),r,↓reduceIte]
  let⟨⟨f,e⟩,k,m,p⟩:=Ez (h:=d.l) (f:=λc l o=>jj W9 45 2 [Z Ab.c d,.n (c:K),.n l.1,.n l.2] o) (g:=λc l k=>k=G.Az/\0<=l.1/\l.1<=(c:K)*1000000/\0<=l.2/\l.2<=(c:K)*1000000000000)
   (λc l k x p=>by
    obtain⟨rfl,W,X,Y,xa⟩:=p;let⟨g,q⟩:=Bo x
    let⟨t,j,m,xc⟩:=xb c g q G.Az l.1 l.2 W X Y xa
    have r:=Dx x;refine⟨(t,j),G.Az,?_,B,xc⟩;show jj W9 45 2 _ _=jj W9 45 2 _ _;rw[MZ.2.2.2.1];simp only[↓Q,↓QC,r,↓reduceIte,m,MZ.2.2.2.2.2.1,↓H (BF (a:=c) (by omega))])
   (b:=(0,0)) (a:=G.Az) ⟨B,by omega,by omega,by omega,by omega⟩
  obtain⟨rfl,_⟩:=p
  have m:jj W9 45 2 [Z Ab.c d,.n 0,.n 0,.n 0] G.Az=jj W9 45 2 [Z Ab.c d,.n d.l,.n f,.n e] G.Az:=m
  have r:=Dz d.l
  rw[Be v]at w
  refine⟨f,e,BP B B B ⟨G.Az,?_⟩⟩
  rw[MZ.1]
  simp only[QY,J.H B,w,QB,MZ.2.1,m]
  rw[MZ.2.2.2.1]
  simp only[↓Q,↓QC,r,↓reduceIte,MZ.2.2.1]
  rw[v]
 .rw[Ba v]at w;refine⟨0,0,BP B B B ⟨G.Az,?_⟩⟩;rw[MZ.1];simp only[QY,J.H B,QB, *]
def kd{i:Type}{d:D}{e:D->i->G->R}{f:D->i->G->Prop}{g:R->Prop}(m:∀a c b,a<d->f a c b->(∃l j,e a c b=e (a+1) l j/\f (a+1) l j)\/g (e a c b))(p:∀c b,f d c b->g (e d c b)):∀h a c b,d-a=h->a<=d->f a c b->g (e a c b)
 |0,a,c,b,s,r,k=>by
  have:a=d:=by omega
  grind
 |h+1,a,c,b,s,r,k=>by
  rcases m a c b (by omega) k with⟨t,q,o,n⟩|u;.rw[o];exact kd m p h (a+1) t q (by omega) (by omega) n
  omega
def Of{h:Type}{d:D->h->G->R}{e:D->h->G->Prop}{g:R->Prop}(m:∀c b a,c<f->e c b a->(∃j i,d c b a=d (c+1) j i/\e (c+1) j i)\/g (d c b a))(k:∀b a,e f b a->g (d f b a)){b:h}{a:G}(l:e 0 b a):g (d 0 b a):=kd m k f 0 b a (by omega) (by omega) l
def AD.Jw(a:AD):Prop:=a.AT.l<2000000/\a.Bk.l<2000000
def Ab.Jw(a:Ab):Prop:=a.Ay.l<2000000/\a.A6.l<2000000/\a.Bs.l<2000000/\a.Bk.l<2000000/\(-9223372036854775808<=a.Ap/\a.Ap<=9223372036854775807)/\∀b∈a.Ay,b.Jw
def Jw(a:C Ab):Prop:=a.l<2000000/\∀b∈a,b.Jw
def fQ{b:C _}(c:Jw b){a:Ab}(e:b[d]? =A a):a.Jw:=c.2 a P
def ak(a:AD):Prop:=a.Bk.l<=40/\a.AT.l<=16
def Xs(a:Ab):Prop:=a.Ay.l<=404/\a.A6.l<=16/\a.Bs.l<=16/\a.Bk.l<=40/\∀b∈a.Ay,ak b
def nD(d:C Ab)(e:R):Prop:=∃(a:Ak)(c:G),e=A (.b a,c)/\(a=L->∀b∈d,Xs b)
def AbK(c:C Ab){e:D}{d:Ab}(y:c[e]? =A d)(w:Jw c)(g:K)(o:Aa)(a:G)(x:a.N o=A (.I 5 (Ab.c d))):(jj W9 43 7 [.p o 0,.n e,Z Ab.c c,.n g] a=jj W9 43 3 [.n e,Z Ab.c c,.n g] a/\∀f∈d.Ay,ak f)\/jj W9 43 7 [.p o 0,.n e,Z Ab.c c,.n g] a=A (.b Ac,a):=by
 have l:=(fQ w y).1;have j:=AJ x 2;rw[Hh.2.2.2.2.2.2.1];exact(Of (f:=d.Ay.l) (d:=λh _ a=>jj _ _ 4 [.p o 0,.n h,.n e,Z Ab.c c,.n g] a) (e:=λh _ k=>k=a/\∀f∈d.Ay.t h,ak f)
  (g:=λu=>(u=jj W9 43 3 [.n e,Z Ab.c c,.n g] a/\∀f∈d.Ay,ak f)\/u=A (.b Ac,a))
  (λh _ k t b=>by
   obtain⟨rfl,b⟩:=b;let⟨v,m⟩:=Bo t
   have p:=Dx t;by_cases q:(40:K)<v.Bk.l;.refine .j (.j ?_);rw[Hh.2.2.2.2.2.2.2.1];simp only[Q,QT,QD,H j,Hh.2.2.2.2.2.2.2.2.1,H (TA m), *]
   .by_cases r:(16:K)<v.AT.l;.refine .j (.j ?_);rw[Hh.2.2.2.2.2.2.2.1];simp only[Q,QT,Aic,QD,H j,p,Hh.2.2.2.2.2.2.2.2.1,H (TA m),q,r]
    .refine .i ⟨(),k,?_,B,?_⟩;.rw[Hh.2.2.2.2.2.2.2.1];simp only[Q,QT,Aic,QD,H j,p,Hh.2.2.2.2.2.2.2.2.1,H (TA m),q,r,Hh.2.2.2.2.2.2.2.2.2,H (BF (a:=h) (by omega))]
     .intro f l;rw[<-Gv m,AiM,Ai3]at l;rcases l with l|rfl;.grind
      .exact⟨by omega,by omega⟩)
  (λ_ k b=>by obtain⟨rfl,b⟩:=b;rw[HV]at b;refine .i ⟨?_,b⟩;rw[Hh.2.2.2.2.2.2.2.1];simp only[Q,QT,Aic,H j,(Dz d.Ay.l)])
  (b:=()) ⟨B,P⟩)
def AdQ(f:C Ab)(E:Jw f)(e:G):nD f (jj W9 43 9 [Z Ab.c f] e):=by
 have xa:=E.1;rw[Hh.2.1];refine Of (f:=f.l) (d:=λl d e=>jj W9 43 2 [Z Ab.c f,.n l,.n d] e) (e:=λl d _=>0<=d/\d<=404/\∀w∈f.t l,Xs w) ?_ ?_ ⟨by omega,by omega,λw Y=>by grind⟩
 .intro l d e R u;let⟨c,j⟩:=Bo R
  have m:=Dx R;have xb:=(fQ E j).1;have p:=GJ (a:=d) (b:=c.Ay.l) (by omega) (by omega);have xc:∀(e:G) q,bl (.p e.next 0) (e.V (.I 5 [(.s []),(.n 0),.sn,.sn,.sn])) q=q (.p e.next 0) (e.V (.I 5 [(.s []),(.n 0),.sn,.sn,.sn])):=λ_ _=>B;have g:=E6 .n c.Bk.l 40;have h:=E6 .n c.A6.l 16;have k:=E6 .n c.Bs.l 16;have r:=E6 .n (d+c.Ay.l) 404;have s:=E6 .n f.l 10;have v:=E6 .n (d+c.Ay.l) 0;have W:jj W9 43 2 [Z Ab.c f,.n l,.n d] e=jj W9 43 7 [.p e.next 0,.n l,Z Ab.c f,.n (d+c.Ay.l)] (e.V (.I 5 (Ab.c c)))/\c.Bk.l<=40/\c.A6.l<=16/\c.Bs.l<=16/\d+c.Ay.l<=404\/jj W9 43 2 [Z Ab.c f,.n l,.n d] e=A (.b Ac,e.V (.I 5 (Ab.c c))):=by
   rw[Hh.2.2.2.1];by_cases o:(40:K)<c.Bk.l;.rw[Be o]at g;right;simp only[Q,QT,m,Hh.2.2.2.2.1,H (Da j),QD,H p,H g]
   by_cases t:(16:K)<c.A6.l;.rw[Ba o]at g;rw[Be t]at h;right;simp only[Q,QT,m,Hh.2.2.2.2.1,H (Da j),QD,H p,H g,H h]
   by_cases x:(16:K)<c.Bs.l;.rw[Ba o]at g;rw[Ba t]at h;rw[Be x]at k;right;simp only[Q,QT,m,Hh.2.2.2.2.1,H (Da j),QD,H p,H g,H h,H k]
   by_cases M:404<d+c.Ay.l;.rw[Ba o]at g;rw[Ba t]at h;rw[Ba x]at k;rw[Be M]at r;right;simp only[Q,QT,m,Hh.2.2.2.2.1,H (Da j),QD,H p,H g,H h,H k,H r]
   rw[Ba o]at g;rw[Ba t]at h;rw[Ba x]at k;rw[Ba M]at r;by_cases y:(10:K)<f.l
   .by_cases N:0<d+c.Ay.l;.rw[Be y]at s;rw[Be N]at v;right;simp only[Q,QT,m,Hh.2.2.2.2.1,H (Da j),QD,H p,H g,H h,H k,H r,H s,H v]
    .rw[Be y]at s;rw[Ba N]at v;left;refine⟨?_,by omega,by omega,by omega,by omega⟩;simp only[Q,QT,m,Hh.2.2.2.2.1,H (Da j),QD,H p,H g,H h,H k,H r,H s,H v]
   .rw[Ba y]at s;left;refine⟨?_,by omega,by omega,by omega,by omega⟩;simp only[Q,QT,m,Hh.2.2.2.2.1,H (Da j),QD,H p,H g,H h,H k,H r,H s]
  rcases W with⟨q,S,T,U,V⟩|q
  .rcases AbK f j E (d+c.Ay.l) e.next (e.V (.I 5 (Ab.c c))) (I8 _ _)with⟨J,X⟩|J
   .refine .i ⟨d+c.Ay.l,e.V (.I 5 (Ab.c c)),?_,by omega,V,?_⟩;.rw[q,J,Hh.2.2.2.2.2.1];simp only[Q,H (BF (a:=l) (by omega))]
    .intro w z;rw[<-Gv j,AiM,Ai3]at z;rcases z with z|rfl;.grind
     .exact⟨by omega,T,U,S,X⟩
   .exact .j ⟨Ac,_,q.t J,P⟩
  .exact .j ⟨Ac,_,q,P⟩
 .intro d e u;have u:=u.2.2;rw[HV]at u;rw[Hh.2.2.2.1];by_cases o:d<=250<;>by_cases t:400<d<;>simp only[Q,QT,Aic,(Dz f.l),Hh.2.2.1,o]<;>exact⟨_,_,B,P⟩
def tc(a:C Ab)(i:Jw a):∃b:Ak,A2 43 [Z Ab.c a] (.b b)/\(b=L->a.l<=63/\∀h∈a,Xs h):=by
 let⟨b,g,f,j⟩:=AdQ a i G.Az
 by_cases d:(10:K)<a.l
 .by_cases e:(a.l:K)<=60;.exact⟨Ac,BP B B B ⟨G.Az,by rw[Hh.1];simp only[↓Q,↓QT, *]⟩,P⟩
  .by_cases c:(63:K)<a.l;.exact⟨Ac,BP B B B ⟨G.Az,by rw[Hh.1];simp only[↓Q,↓QT,Aic,d,e,c]⟩,P⟩
   .exact⟨b,BP B B B ⟨g,by rw[Hh.1];simp only[↓Q,↓QT,Aic,d,e,c,f]⟩,P⟩
 .have c:¬(63:K)<a.l:=by omega
  exact⟨b,BP B B B ⟨g,by rw[Hh.1];simp only[↓Q,↓QT,Aic,d,c,f]⟩,P⟩
def eM(a:AS):Prop:=a.l.l<=5/\a.BO.l<=5/\∀b∈a.l,b.l<=43
def te(a:AS)(z:a.CA):∃c:Ak,A2 44 [.S (AS.c a)] (.b c)/\(c=L->eM a):=by
 have V:=z.2.1;have t:(G.Az.V (.I 2 (AS.c a))).N .h=A (.I 2 (AS.c a)):=B;have m:G.Az.next=.h:=B;generalize l:G.Az.V (.I 2 (AS.c a))=d at t;have o:∀(b:G)(r:F->G->R),bl (.p b.next 0) (b.V (.I (BK (F.I (.S (AS.c a)))) (F.I (.S (AS.c a))))) r=r (.p b.next 0) (b.V (.I 2 (AS.c a))):=λ_ _=>B;by_cases J:(5:K)<a.l.l;.exact⟨Ac,BP B B B ⟨d,by rw[KN.1,o,l,m];simp only[QY, *]⟩,P⟩
 by_cases M:(5:K)<a.BO.l;.exact⟨Ac,BP B B B ⟨d,by rw[KN.1,o,l,m];simp only[QY, *]⟩,P⟩
 let⟨c,p,y⟩:=(Of (f:=a.l.l) (d:=λe _ b=>jj W9 44 2 [.p .h 0,.n e] b) (e:=λe _ b=>b=d/\∀f∈a.l.t e,f.l<=43)
  (g:=λE=>∃c:Ak,E=A (.b c,d)/\(c=L->∀f∈a.l,f.l<=43))
  (λe _ b q g=>by
   obtain⟨rfl,g⟩:=g;let⟨k,j⟩:=Bo q
   have u:=Dx q;have T:k.l<=43->∀f∈a.l.t (e+1),f.l<=43:=λx f w=>by rw[<-Gv j,AiM,Ai3]at w;grind
   show(∃_ U,jj W9 44 2 _ _=jj W9 44 2 _ _/\_)\/(∃c:Ak,jj W9 44 2 _ _=_/\_);by_cases N:(12:K)<k.l
   .by_cases S:(k.l:K)<=40;.refine .j ⟨Ac,?_,P⟩;rw[KN.2.2.2.1];simp only[QY,KN.2.2.2.2.1,H (Kg j),H (Wh _ _), *]
    .by_cases v:(43:K)<k.l;.refine .j ⟨Ac,?_,P⟩;rw[KN.2.2.2.1];simp only[QY,KN.2.2.2.2.1,H (Kg j),H (Wh _ _), *]
     .refine .i ⟨(),b,?_,B,P⟩;rw[KN.2.2.2.1];simp only[QY,KN.2.2.2.2.1,H (Kg j),H (Wh _ _),KN.2.2.2.2.2,H (BF (a:=e) (by omega)), *]
   .have v:¬(43:K)<k.l:=by omega
    refine .i ⟨(),b,?_,B,P⟩;rw[KN.2.2.2.1];simp only[QY,KN.2.2.2.2.1,H (Kg j),H (Wh _ _),KN.2.2.2.2.2,H (BF (a:=e) (by omega)), *])
  (λ_ b g=>by obtain⟨rfl,g⟩:=g;rw[HV]at g;have u:=Dz a.l.l;refine⟨L,?_,P⟩;show jj W9 44 2 _ _=_;rw[KN.2.2.2.1];simp only[QY,KN.2.2.1, *])
  (b:=()) (a:=d) ⟨B,λf x=>by grind⟩)
 have p:jj W9 44 2 [.p .h 0,.n 0] d=A (.b c,d):=p;exact⟨c,BP B B B ⟨d,by rw[KN.1,o,l,m];simp only[QY,KN.2.1, *]⟩,λb=>⟨by omega,by omega,y b⟩⟩
def r0{b:C _}(e:Jw b)(d:b.l<=63/\∀a∈b,Xs a):CA b:=by
 refine⟨by omega,λa c=> ?_⟩;let⟨i,_,_,_,h⟩:=d.2 a c
 refine⟨by omega,by omega,by omega,by omega,(e.2 a c).2.2.2.2.1,λg f=> ?_⟩;let⟨j,k⟩:=h g f
 exact⟨by omega,by omega⟩
def AeX(a:C Ab)(c:AS):Prop:=CA a/\(a.l<=63/\∀b∈a,Xs b)/\eM c
def g4(b:C Ab)(a:AS)(i:Jw b)(q:a.CA):∃l:Ak,A2 14 [Z Ab.c b,.S (AS.c a)] (.b l)/\(l=L->AeX b a):=by
 let⟨r,d,g⟩:=tc b i
 let⟨s,k,p⟩:=te a q
 have v:∀(c:G)(j:F->G->R),bl (.p c.next 0) (c.V (.I (BK (F.I (.S (AS.c a)))) (F.I (.S (AS.c a))))) j=j (.p c.next 0) (c.V (.I 2 (AS.c a))):=λ_ _=>B;cases r
 .exact⟨Ac,BP B B B ⟨G.Az.V (.I 2 (AS.c a)),by rw[Y4.1];simp only[QY,d.H B,QB]⟩,P⟩
 cases s
 .exact⟨Ac,BP B B B ⟨G.Az.V (.I 2 (AS.c a)),by rw[Y4.1];simp only[QY,d.H B,k.H B,QB]⟩,P⟩
 have h:=r0 i (g B);let⟨e,u,o⟩:=to b h
 have f:=FW .n (DR b) 0;have n:=Qm .n e 70;generalize Au (DR b=0)=m at f;generalize Au (e<=70)=t at n;refine⟨!m||t,BP B B B ⟨G.Az.V (.I 2 (AS.c a)),?_⟩,λ_=>⟨h,g B,p B⟩⟩;rw[Y4.1];cases m<;>simp only[AiB,Ai2]at f<;>simp only[QY,d.H B,k.H B,QB,Y4.2,o.H B, *]
def R3(h:Ak)(j:C K)(xb:j.l<1000000):A2 17 [.b h,Z Bq j] (.S (AS.c ⟨[j],[h]⟩)):=by
 let⟨b,a,xd,o,s,y⟩:=UK (f:=Bq) (w:=1) (c:=[]) (a:=j) (j:=8) (λ_=>B) (λ_=>B) (UM (G.Az.V (.I 2 [.sn,.sn])) Bq 1) (EI (by grind))
 have o:AF a b Bq 1 j:=o;have q:Lv ((G.Az.V (.I 2 [.sn,.sn])).V (.I 0 [])) .h:=(GD G.Az _).V _;have p:AE (.Z (G.Az.V (.I 2 [.sn,.sn])).next 0 0 1 1) .h:=Fe (by intro N;cases N);have W:a.N .h=A (.I 2 [.sn,.sn]):=s.N q p;have xf:=s.lv q p;have xk:=y _ q p;have T:=W6 (w:=1) a.next (show b.I.l=1 by rw[(CS o).1];rfl);rw[(CS o).1]at T;have xi:CB 1 1 (a.V (.I 1 [b])).next [.b h]=A (.I 1 [.b h],.Z (a.V (.I 1 [b])).next 0 1 2 1):=W6 _ B
 have r:BE [.sn,.sn] [(0,1),(1,1)] [.Z a.next 0 1 2 1,.Z (a.V (.I 1 [b])).next 0 1 2 1]=A (.S [.Z a.next 0 1 2 1,.Z (a.V (.I 1 [b])).next 0 1 2 1]):=B;generalize S:(a.V (.I 1 [b])).V (.I 1 [.b h])=k;have v:AR a k:=by rw[<-S];exact(AR.V _ _).AQ (AR.V _ _)
 have I:k.N .h=A (.I 2 [.sn,.sn]):=by grind
 have X:k.N a.next=A (.I 1 [b]):=by grind
 have Y:k.N (a.V (.I 1 [b])).next=A (.I 1 [.b h]):=by grind
 generalize t:F.Z a.next 0 1 2 1=c at r;generalize u:F.Z (a.V (.I 1 [b])).next 0 1 2 1=e at r
 have x:Ct [c,e]=L:=by rw[<-t,<-u];rfl
 have U:A1 2 k [.p .h 0,.S [c,e]]=A (Ax,k.set .h (.I 2 [c,e])):=by show An (An (Bb (BK [c,e]) 2) (Ct [c,e]) Ac) (match k.EY .h 0 2 [c,e]with|some R=>A (Ax,R)|none=>O) O=_;rw[L8 (by rw[I];rfl),Af (by omega),Af B,x];rfl
 generalize m:k.set .h (.I 2 [c,e])=i at U;have xe:Bf 2 i [.p .h 0]=A (.S [c,e]):=by rw[Gk,<-m,EA (d:=2) (c:=[c,e]) (by rw[AY,Af B]),Af (by omega),Af B];rfl
 have xj:i.AU .h 0 2=A [c,e]:=by rw[<-m,EA (d:=2) (c:=[c,e]) (by rw[AY,Af B]),Af (by omega),Af B]
 have J:i.N a.next=A (.I 1 [b]):=by rw[<-m,AY,Ad P];grind
 have M:i.N (a.V (.I 1 [b])).next=A (.I 1 [.b h]):=by rw[<-m,AY,Ad P];grind
 have z:Fz 3 i c (Z CG [j]):=by rw[<-t];exact Fz.Na (f:=NZ) (g:=CG) (b:=[b]) (q:=[j]) (d:=1) (λ_=>B) (λ_=>B) (by rw[J];rfl) (.cons (CI.cons (Fz.CC (λ_=>B) (λ_=>B) ((o.ext v).Av λxh xc xa=>⟨by rw[<-m,AY,Ad (λV=>by grind)],by grind⟩:AF i b Bq 1 j):Fz 2 i b (Z Bq j)) (CI.nil _ _)) .nil)
 have E:Fz 2 i e (Z Db [h]):=by rw[<-u];exact Fz.Na (f:=Db) (g:=Db) (b:=[h]) (q:=[h]) (d:=1) (λ_=>B) (λ_=>B) (by rw[M];rfl) (.cons (CI.cons (Fz.im B) (CI.nil _ _)) .nil)
 refine Fz.Qr B B (f:=.S [c,e]) (d:=i) (c:=4) ?_ (Fz.S (CI.cons z (CI.cons (E.up (by omega)) (CI.nil _ _)))) (by omega);have xg:G.Az.next=.h:=B;rw[v0];simp only[↓Q,↓H (P7 1 _)];grind
def NT{b:G}{c:Aa}{f:C F}(e:b.N c=A (.I 2 f))(a:M):A1 2 b [.p c 0,.S (M.c a)]=A (Ax,b.set c (.I 2 (M.c a))):=by show An (An (Bb (BK (M.c a)) 2) (Ct (M.c a)) Ac) (match b.EY c 0 2 (M.c a)with|some d=>A (Ax,d)|none=>O) O=_;rw[L8 (by rw[e];rfl),Af (by omega),Af B];rfl
def wT(c:G)(b:Aa)(a:M):Bf 2 (c.set b (.I 2 (M.c a))) [.p b 0]=A (.S (M.c a)):=by rw[Gk,EA (c:=M.c a) (d:=2) (by rw[AY,Af B]),Af (by omega),Af B];rfl
def QV:
 (∀{h:Type}(k:G)(i:Aa)(m:C F)(b:C F->Aj h),((k.set i (.I 2 m)).AU i 0 2).b b=b m)/\
 (∀{h:Type}(k:G)(i:Aa)(e:M)(b:F->Aj h),(Bf 2 (k.set i (.I 2 (M.c e))) [.p i 0]).b b=b (.S (M.c e)))/\
 (∀(o p:K),F.S [.i .u8 o,.n p]=F.S (M.c ⟨o,p⟩))/\
 (∀{h:Type}(a:G)(c:C F)(d:Ce)(e:M)(b:F×G->Aj h),(A1 2 ((a.V (.I 2 c)).V d) [.p a.next 0,.S (M.c e)]).b b=b (Ax,((a.V (.I 2 c)).V d).set a.next (.I 2 (M.c e))))/\
 (∀{h:Type}(a:G)(c:C F)(d f:Ce)(e:M)(b:F×G->Aj h),(A1 2 (((a.V (.I 2 c)).V d).V f) [.p a.next 0,.S (M.c e)]).b b=b (Ax,(((a.V (.I 2 c)).V d).V f).set a.next (.I 2 (M.c e))))/\
 (∀{h:Type}(a:G)(c:C F)(d f j:Ce)(e:M)(b:F×G->Aj h),(A1 2 ((((a.V (.I 2 c)).V d).V f).V j) [.p a.next 0,.S (M.c e)]).b b=b (Ax,((((a.V (.I 2 c)).V d).V f).V j).set a.next (.I 2 (M.c e))))/\
 (∀(a:G)(g:D)(c:C F)(d f:Ce),Bf g (((a.V (.I g c)).V d).V f) [.p a.next 0]=A (.S c))/\
 (∀(a:G)(g:D)(c:C F)(d f j:Ce),Bf g ((((a.V (.I g c)).V d).V f).V j) [.p a.next 0]=A (.S c)):=
 ⟨λk i m b=>H (by rw[EA (c:=m) (d:=2) (by rw[AY,Af B]),Af (by omega),Af B]) b,
  λk i e b=>H (wT k i e) b,
  λ_ _=>B,
  λa c d e b=>H (NT (Vq a 2 c d) e) b,
  λa c d f e b=>H (NT (X3 a 2 c d f) e) b,
  λa c d f j e b=>H (NT (X4 a 2 c d f j) e) b,
  λa g c d f=>by rw[Gk,EA (X3 a g c d f),Af (by omega),Af B];rfl,
  λa g c d f j=>by rw[Gk,EA (X4 a g c d f j),Af (by omega),Af B];rfl⟩
def QE:(∀{c:Type}(a:F->Aj c),(BE [(.i .u8 0),(.n 0)] [] []).b a=a (.S (M.c AK)))/\
 (∀{c:Type}(b:K)(a:F->Aj c),(BE [(.i .u8 0),(.n 0)] [(0,1)] [.i .u8 b]).b a=a (.S (M.c ⟨b,0⟩)))/\
 (∀{c:Type}(b d:K)(a:F->Aj c),(BE [(.i .u8 0),(.n 0)] [(0,1),(1,1)] [.i .u8 b,.n d]).b a=a (.S (M.c ⟨b,d⟩)))/\
 (∀{c:Type}(b:K)(a:F->Aj c),(BE [(.i .u8 0),(.n 0)] [(1,1)] [.n b]).b a=a (.S (M.c ⟨0,b⟩))):=
 ⟨λ_=>B,λ_ _=>B,λ_ _ _=>B,λ_ _=>B⟩
def MS(a:M):M:=if a.Ai=5 then a else if a.Ai=3 then ET L else if a.Ai=4 then ET Ac else D2 5
def ti(a:M):A2 125 [.S (M.c a)] (.S (M.c (MS a))):=BP B B B (by unfold MS;rw[jB.1];by_cases b:a.Ai=5<;>by_cases c:a.Ai=3<;>by_cases d:a.Ai=4<;>first|omega|(simp only[↓Q,↓QD,↓QV,↓QE,↓QT,Aic,Int.reduceEq,b,c,d,jB.2,↓reduceIte];exact⟨_,B⟩))
def uE(a:M):A2 142 [.S (M.c a)] (.S (M.c (MS a))):=BP B B B (by have b:=O6 L;have c:=O6 Ac;have d:=N3 5;unfold MS;rw[cT.1];by_cases e:a.Ai=5<;>by_cases f:a.Ai=3<;>by_cases g:a.Ai=4<;>first|omega|(simp only[QY,QV,QE,Int.reduceEq,cT.2.1,cT.2.2,b.H B,c.H B,d.H B, *];grind))
def D1(a b:M):K×M:=if a.Ai=2 then(1-a.n,b)else if a.Ai=5 then(1,a)else(1,D2 5)
def uP(c d:M)(l: -9223372036854775806<=c.n/\c.n<=9223372036854775807):A2 75 [.S (M.c c),.S (M.c d)] (.AC [.n (D1 c d).1,.S (M.c (D1 c d).2)]):=by
 have k:=Gu (a:=1) (b:=c.n) (by omega) (by omega);have h:=YH c;unfold D1;by_cases j:c.Ai=2
 .rw[Af j];obtain⟨i,e⟩:∃f,xx W9 75 [.S (M.c c),.S (M.c d)] G.Az=A (.AC [.n (1-c.n),.S (M.c d)],f):=by rw[Y9.1];simp only[QY,QV,QE,Int.reduceEq, *];grind
  exact FN B B e B
 rw[Ad j];by_cases g:c.Ai=5
 .rw[Af g];rw[Be g]at h;obtain⟨i,e⟩:∃f,xx W9 75 [.S (M.c c),.S (M.c d)] G.Az=A (.AC [.n 1,.S (M.c c)],f):=by rw[Y9.1];simp only[QY,QV,QE,Int.reduceEq,h.H B, *];grind
  exact FN B B e B
 .rw[Ad g];rw[Ba g]at h;obtain⟨i,e⟩:∃f,xx W9 75 [.S (M.c c),.S (M.c d)] G.Az=A (.AC [.n 1,.S (M.c (D2 5))],f):=by rw[Y9.1];simp only[QY,QV,QE,Int.reduceEq,h.H B,Y9.2, *];exact⟨_,B⟩
  exact FN B B e B
def Xo(a b:M):K×M:=if a=ET L then(0,b)else if a=ET Ac then(1,b)else if a.Ai=5 then(1,a)else(1,D2 5)
def he(c:Ak)(a b:M):F5 c [0,0] [.S (M.c a),.S (M.c b)]=A (.b (if c then !Au (a=b)else Au (a=b))):=by
 have:G2 [0,0] (M.c a) (M.c b)=A (Au (a=b)):=by
  show KD _ (KD (Ie 0 (.n a.n) (.n b.n)) (A L))=_;rw[bz,bz,Vi,Vi];congr 1;let⟨d,e⟩:=a
  let⟨f,g⟩:=b
  by_cases h:d=f<;>by_cases i:e=g<;>simp[]
 rw[hp,this];rfl
def hc(a b:M):F5 Ac [0,0] [.S (M.c a),.S (M.c b)]=A (.b (Au (a=b))):=he _ a b
def uD(a b:M):A2 141 [.S (M.c a),.S (M.c b)] (.AC [.n (Xo a b).1,.S (M.c (Xo a b).2)]):=by
 have e:=O6 L;have i:=O6 Ac;have m:=N3 5;have k:=hc a (ET L);have l:=hc a (ET Ac);unfold Xo;by_cases f:a=ET L
 .rw[Af f];rw[Be f]at k;obtain⟨h,c⟩:∃d,xx W9 141 [.S (M.c a),.S (M.c b)] G.Az=A (.AC [.n 0,.S (M.c b)],d):=by rw[V7.1];simp only[QE,e.H B,QV, *];exact⟨_,B⟩
  exact FN B B c B
 rw[Ad f];rw[Ba f]at k;by_cases g:a=ET Ac
 .rw[Af g];rw[Be g]at l;obtain⟨h,c⟩:∃d,xx W9 141 [.S (M.c a),.S (M.c b)] G.Az=A (.AC [.n 1,.S (M.c b)],d):=by rw[V7.1];simp only[e.H B,i.H B,QV, *];exact⟨_,B⟩
  exact FN B B c B
 rw[Ad g];rw[Ba g]at l;by_cases j:a.Ai=5
 .rw[Af j];obtain⟨h,c⟩:∃d,xx W9 141 [.S (M.c a),.S (M.c b)] G.Az=A (.AC [.n 1,.S (M.c a)],d):=by rw[V7.1];simp only[QY,QV,QE,e.H B,i.H B,QV, *];grind
  exact FN B B c B
 .rw[Ad j];obtain⟨h,c⟩:∃d,xx W9 141 [.S (M.c a),.S (M.c b)] G.Az=A (.AC [.n 1,.S (M.c (D2 5))],d):=by rw[V7.1];simp only[QY,QV,QE,e.H B,i.H B,m.H B,QV,V7.2, *];grind
  exact FN B B c B
def KF(a:AD)(b:M):M:=if b.Ai=5 then b else if a.op=3 then Di else if a.op=2 then⟨2,a.n⟩else Ed a.n
def tj(c:AD)(d:M):A2 126 [.S (AD.c c),.S (M.c d)] (.S (M.c (KF c d))):=BP B B B (by
 have a:=YH d;unfold KF;rw[jC.1];by_cases b:d.Ai=5;.rw[Be b]at a;simp only[QY,QV,QE,a.H B];rw[Af b];grind
 rw[Ad b];rw[Ba b]at a;by_cases e:c.op=3;.simp only[QY,QV,QE,Int.reduceEq,a.H B, *];exact⟨_,B⟩
 by_cases f:c.op=2;.simp only[QY,QV,QE,Int.reduceEq,a.H B, *];grind
 simp only[QY,QV,QE,Int.reduceEq,a.H B,jC.2, *];exact⟨_,B⟩)
def TI(a:AD):M:=if a.op=1 then Ed a.n else if a.op=2 then ET (Au (a.n=1))else Di
def uB(a:AD):A2 139 [.S (AD.c a)] (.S (M.c (TI a))):=BP B B B (by
 have b:=R4 a.n;have c:=O6 (Au (a.n=1));have d:=cm;have g:=Cz .n a.n 1;unfold TI;rw[jE.1];by_cases e:a.op=1;.simp only[QY,QV,QE,Int.reduceEq,b.H B, *];grind
 by_cases f:a.op=2;.simp only[QY,QV,QE,Int.reduceEq,c.H B, *];grind
 simp only[QY,QV,QE,Int.reduceEq,d.H B,jE.2, *];grind)
theorem Kz{d:C _}{c:D}{e:M}(f:d[c]? =A e):AZ 2 [Z M.c d,.n c]=A (.pi e.c):=Fi f B
def EL:C M->M
 |[]=>AK
 |c::d=>if c.Ai=5 then c else EL d
theorem oA{d:C M}{c:D}{e:M}(g:d[c]? =A e):EL (d.d c)=if e.Ai=5 then e else EL (d.d (c+1)):=by
 let⟨i,f,h⟩:=Eh (Aid.1 g).1
 rw[g]at f;cases f;rw[h];rfl
theorem uA(d:C M)(p:d.l<1000000):A2 138 [Z M.c d] (.S (M.c (EL d))):=BP B B B (by
 let⟨h,j⟩:=(Of (d:=λf _ e=>jj W9 138 2 [Z M.c d,.n f,.p G.Az.next 0] e) (e:=λf _ e=>e=G.Az.V (.I 2 [.i .u8 0,.n 0])/\EL (d.d f)=EL d)
  (g:=λn=>∃h,n=A (.S (M.c (EL d)),h))
  (λf _ e m c=>by
   obtain⟨rfl,c⟩:=c;obtain⟨o,k⟩:=Bo m;have l:=Dx m;rw[oA k]at c;rw[Sf.2.2.1];by_cases g:o.Ai=5;.rw[Af g]at c;right;simp only[Q,QD,QT,l,Sf.2.2.2.1,H (Kz k),g];rw[<-c];grind
   .rw[Ad g]at c;left;refine⟨(),_,?_,B,c⟩;simp only[Q,QD,QT,Aic,l,Sf.2.2.2.1,H (Kz k),g,Sf.2.2.2.2,H (BF (a:=f) (by omega))])
  (λ_ e c=>by obtain⟨rfl,c⟩:=c;rw[Akq]at c;rw[<-c];rw[Sf.2.2.1];simp only[Q,QT,Aic,(Dz d.l),Sf.2.1];exact⟨_,B⟩)
  (b:=()) ⟨B,B⟩)
 have j:jj W9 138 2 [Z M.c d,.n 0,.p G.Az.next 0] (G.Az.V (.I 2 [.i .u8 0,.n 0]))=A (.S (M.c (EL d)),h):=j;refine⟨h,?_⟩;rw[Sf.1];simp only[Q,j])
def DO(c:K):Prop:= -1000000000<=c/\c<=1000000000
def N1(a b:K):M:=if b=0 then D2 1 else G8 (a.tdiv b)
def Oj(a b:K):M:=if b=0 then D2 1 else G8 (a.tmod b)
theorem Aa7{a b:K}(c:DO a)(d:DO b): -1000000000000000000<=a*b/\a*b<=1000000000000000000:=by
 have e:(a*b).natAbs<=1000000000*1000000000:=by rw[Int.natAbs_mul];exact Nat.mul_le_mul (by unfold DO at c;omega) (by unfold DO at d;omega)
 omega
theorem AeU{a b:K}(d:DO a):DO (a.tdiv b):=by have c:=Int.natAbs_tdiv_le_natAbs a b;unfold DO at*;omega
section
variable(a b:K)
theorem tW(c:DO a)(d:DO b):A2 211 [.n a,.n b] (.S (M.c (G8 (a+b)))):=BP B B B (by rw[v_];simp only[H (GJ (a:=a) (b:=b) (by unfold DO at*;omega) (by unfold DO at*;omega)),(TX (a+b)).H B];exact⟨_,B⟩)
theorem tX(c:DO a)(d:DO b):A2 213 [.n a,.n b] (.S (M.c (G8 (a-b)))):=BP B B B (by rw[wa];simp only[H (Gu (a:=a) (b:=b) (by unfold DO at*;omega) (by unfold DO at*;omega)),(TX (a-b)).H B];exact⟨_,B⟩)
theorem Ww(c:DO a)(d:DO b):A7 .mul [.n a,.n b]=A (.n (a*b)):=by have:=Aa7 c d;rw[bJ,OJ (by omega) (by omega)]
theorem tY(c:DO a)(d:DO b):A2 214 [.n a,.n b] (.S (M.c (G8 (a*b)))):=BP B B B (by rw[wc];simp only[H (Ww a b c d),(TX (a*b)).H B];exact⟨_,B⟩)
theorem dx(c:DO a):Ii [.n a]=A (.n (-a)):=by show A (F.n (IW .n (R9 0 a)))=_;rw[Ls,V2,OJ (by unfold DO at*;omega) (by unfold DO at*;omega),Int.zero_sub]
theorem t5(c:DO a):A2 220 [.n a,.n b] (.S (M.c (G8 (-a)))):=BP B B B (by rw[wj];simp only[H (dx a c),(TX (-a)).H B];exact⟨_,B⟩)
theorem t6:A2 221 [.n a,.n b] (.S (M.c (ET (Au (a<b))))):=BP B B B (by rw[wk];simp only[QC,QV,(YI (Au (a<b))).H B];exact⟨_,B⟩)
theorem t7:A2 223 [.n a,.n b] (.S (M.c (ET (Au (a<=b))))):=BP B B B (by rw[wl];simp only[QC,QV,(YI (Au (a<=b))).H B];exact⟨_,B⟩)
theorem t8:A2 224 [.n a,.n b] (.S (M.c (ET (Au (a=b))))):=BP B B B (by rw[wm];simp only[QC,QV,(YI (Au (a=b))).H B];exact⟨_,B⟩)
theorem t9:A2 225 [.n a,.n b] (.S (M.c (ET (Au (a=0))))):=BP B B B (by rw[wn];simp only[QC,QV,(YI (Au (a=0))).H B];exact⟨_,B⟩)
theorem ZQ(c:DO a)(d:b≠0):A7 .quo [.n a,.n b]=A (.n (a.tdiv b)):=by have:=AeU (b:=b) c;rw[rF _ _ d,OJ (by unfold DO at*;omega) (by unfold DO at*;omega)]
theorem t2(e:DO a)(f:b≠0):A2 217 [.pi [.n a],.pi [.n b]] (.n (a.tdiv b)):=BP B B B (by rw[we];simp only[H ((λ_ _=>B:∀d c,AW d [.pi [.n c]]=A (.n c)) _ _),H (ZQ a b e f)];grind)
theorem t4(f:DO a)(e:b≠0):A2 219 [.pi [.n a],.pi [.n b]] (.n (a.tmod b)):=BP B B B (by rw[wh];simp only[H ((λ_ _=>B:∀d c,AW d [.pi [.n c]]=A (.n c)) _ _),H (Yh .n a e)];grind)
theorem t0(g:DO a):A2 216 [.n b,.f (Ar 217) [.pi [.n a],.pi [.n b]]] (.S (M.c (N1 a b))):=BP B B B (by
 unfold N1;rw[Y8.1];by_cases c:b=0;.simp only[c,(O8 1).H B,QV];exact⟨_,B⟩
 .have f:=t2 a b g c;have e:∀d,Du W9 (.f (Ar 217) [.pi [.n a],.pi [.n b]]) [] d=A (.n (a.tdiv b),d):=(f.at B);simp only[QT,Aic,c,H (e _),(TX (a.tdiv b)).H B,Y8.2];exact⟨_,B⟩)
theorem t1(g:DO a):A2 216 [.n b,.f (Ar 219) [.pi [.n a],.pi [.n b]]] (.S (M.c (Oj a b))):=BP B B B (by
 unfold Oj;rw[Y8.1];by_cases c:b=0;.simp only[c,(O8 1).H B,QV];exact⟨_,B⟩
 .have f:=t4 a b g c;have e:∀d,Du W9 (.f (Ar 219) [.pi [.n a],.pi [.n b]]) [] d=A (.n (a.tmod b),d):=(f.at B);simp only[QT,Aic,c,H (e _),(TX (a.tmod b)).H B,Y8.2];exact⟨_,B⟩)
theorem tZ(f:DO a):A2 215 [.n a,.n b] (.S (M.c (N1 a b))):=BP B B B (by
 have d:W9 (Ar 216) [.n b,.f (Ar 217) [.p .h 0,.p (.o .h) 0]] (((G.Az.V (.I 1 [.n a])).V (.I 1 [.n b])).V (.I 2 [.i .u8 0,.n 0]))=A (.S (M.c (N1 a b)),((((G.Az.V (.I 1 [.n a])).V (.I 1 [.n b])).V (.I 2 [.i .u8 0,.n 0])).set .h (.rc 1 [.n a])).set (.o .h) (.rc 1 [.n b])):=(t0 a b f) _ _ _ B;have i:∀(c:G) e d,bl (.p c.next 0) (c.V (.I (BK (F.I (.n e))) (F.I (.n e)))) d=d (.p c.next 0) (c.V (.I 1 [.n e])):=λ_ _ _=>B;have g:G.Az.next=.h:=B;have h:(G.Az.V (.I 1 [.n a])).next=.o .h:=B
 rw[wd];simp only[i,Q];rw[g,h];simp only[H (B:([F.n b])[0]? =A (.n b)),H d,Q];rw[H (NT B _)];exact⟨_,B⟩)
theorem t3(f:DO a):A2 218 [.n a,.n b] (.S (M.c (Oj a b))):=BP B B B (by
 have d:W9 (Ar 216) [.n b,.f (Ar 219) [.p .h 0,.p (.o .h) 0]] (((G.Az.V (.I 1 [.n a])).V (.I 1 [.n b])).V (.I 2 [.i .u8 0,.n 0]))=A (.S (M.c (Oj a b)),((((G.Az.V (.I 1 [.n a])).V (.I 1 [.n b])).V (.I 2 [.i .u8 0,.n 0])).set .h (.rc 1 [.n a])).set (.o .h) (.rc 1 [.n b])):=(t1 a b f) _ _ _ B;have i:∀(c:G) e d,bl (.p c.next 0) (c.V (.I (BK (F.I (.n e))) (F.I (.n e)))) d=d (.p c.next 0) (c.V (.I 1 [.n e])):=λ_ _ _=>B;have g:G.Az.next=.h:=B;have h:(G.Az.V (.I 1 [.n a])).next=.o .h:=B
 rw[wg];simp only[i,Q];rw[g,h];simp only[H (B:([F.n b])[0]? =A (.n b)),H d,Q];rw[H (NT B _)];exact⟨_,B⟩)
end
