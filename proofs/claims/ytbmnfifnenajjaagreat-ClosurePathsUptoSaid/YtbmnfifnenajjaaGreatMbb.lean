/- Part of the proof. -/
import Derived.Test.YtbmnfifnenajjaaGreatMba
set_option linter.all false
noncomputable section
open Option renaming some->A,none->O,bind->Option.b
open _root_ renaming rfl->B,List->C,Nat->D,Int->K,if_neg->Ad,if_pos->Af,Option->Ae,Bool->Ah,cond->Aj,decide_eq_true->A0,decide_eq_false->A2,absurd->BF
open Bool renaming true->L,false->Aa
open Decidable renaming decide->Ao
open Nat renaming beq->AW,ble->BX,le_refl->CK
open List renaming length->List.l,map->List.m,take->List.t,drop->List.d,flatMap->List.f
open Go.IntKind renaming i64->Go.IntKind.n
open Array renaming toList->Array.l
open Eq renaming trans->Eq.t,symm->Eq.s
open Or renaming inl->Or.i,inr->Or.j
open Int renaming toNat->Int.n
namespace Go.Proofs.YtbmnfifnenajjaaGreat
open Go.Fg
def AO:N:=⟨0,0⟩
def EA(a:K):N:=⟨1,a⟩
def Eu(a:Ah):N:=⟨2,if a=L then 1 else 0⟩
def D4:N:=⟨3,0⟩
def JJ(a:K):N:=⟨4,a⟩
def Ed(a:K):N:=⟨5,a⟩
def Sz(a:K):AY 39 [.n a] (.S (N.c (EA a))):=Bu B B B ⟨_,by rw[sY];rfl⟩
def ai:AY 76 [] (.S (N.c D4)):=Bu B B B ⟨G.Aq.V (.I 2 (N.c D4)),by rw[s5];kernel_rfl⟩
def fI(a:K):AY 169 [.n a] (.S (N.c (JJ a))):=Bu B B B ⟨_,by rw[sh];rfl⟩
def Nd(a:K):AY 167 [.n a] (.S (N.c (Ed a))):=Bu B B B ⟨_,by rw[sg];rfl⟩
def ab(a:K):AY 144 [.n a] (.S (N.c (EA a))):=Bu B B B ⟨_,by rw[sa];rfl⟩
def N_(a:K):AY 248 [.n a] (.S (N.c (Ed a))):=Bu B B B ⟨_,by rw[sP];rfl⟩
def Xa:AY 141 [] (.S (N.c AO)):=Bu B B B ⟨G.Aq.V (.I 2 (N.c AO)),by rw[r8];kernel_rfl⟩
def aa:AY 142 [] (.S (N.c D4)):=Bu B B B ⟨G.Aq.V (.I 2 (N.c D4)),by rw[r_];kernel_rfl⟩
def N8(a:Ah):AY 163 [.b a] (.S (N.c (Eu a))):=Bu B B B (by
 have b:Cb [(.i .u8 0),(.n 0)] [(0,1)] [(.i .u8 2)]=A (.S (N.c (Eu Aa))):=B;cases a
 .exact⟨G.Aq.V (.I 2 (N.c (Eu Aa))),by rw[aN.1];simp only[QY,aN.2, *]⟩
 .exact⟨_,by rw[aN.1];rfl⟩)
def j9(a:N)(b:G)(d c:T)(f:b.M d=A (.I 2 (N.c a)))(g:b.M c=A (.I 2 (N.c AO))):jj W9 242 1 [.p d 0,.p c 0] b=A (.S (N.c a),b.set c (.I 2 (N.c a))):=by
 have h:A9 2 b [.p d 0]=A (.S (N.c a)):=by rw[F5,D1 f,Af (by omega),Af B];rfl
 have i:AX 2 b [.p c 0,.S (N.c a)]=A (AC,b.set c (.I 2 (N.c a))):=by show Aj (Aj (AW (Bq (N.c a)) 2) (BU (N.c a)) Aa) (match b.Ep c 0 2 (N.c a)with|some e=>A (AC,e)|none=>O) O=_;rw[Ki (by rw[g];rfl),Af (by omega),Af B];rfl
 have j:A9 2 (b.set c (.I 2 (N.c a))) [.p c 0]=A (.S (N.c a)):=by rw[F5,D1 (c:=N.c a) (d:=2) (by rw[AN,Af B]),Af (by omega),Af B];rfl
 rw[aR.2];grind
def Xc(a:Ah):AY 242 [.b a] (.S (N.c (Eu a))):=Bu B B B (by
 have b:Cb [(.i .u8 0),(.n 0)] [(0,1)] [(.i .u8 2)]=A (.S (N.c (Eu Aa))):=B;cases a
 .refine⟨((G.Aq.V (.I 2 (N.c AO))).V (.I 2 (N.c (Eu Aa)))).set .h (.I 2 (N.c (Eu Aa))),?_⟩;.rw[aR.1];simp only[QY, *];exact(j9 _ ((G.Aq.V (.I 2 (N.c AO))).V (.I 2 (N.c (Eu Aa)))) (.o .h) .h B B)
 .have g:=j9 _ ((G.Aq.V (.I 2 (N.c AO))).V (.I 2 (N.c (Eu L)))) (.o .h) .h B B;have c:AX 1 ((G.Aq.V (.I 2 (N.c AO))).V (.I 2 (N.c (Eu Aa)))) [.p (.o .h) 1,.n 1]=A (AC,(G.Aq.V (.I 2 (N.c AO))).V (.I 2 (N.c (Eu L)))):=by kernel_rfl
  refine⟨((G.Aq.V (.I 2 (N.c AO))).V (.I 2 (N.c (Eu L)))).set .h (.I 2 (N.c (Eu L))),?_⟩
  .rw[aR.1];simp only[QY, *];have f:(G.Aq.V (.I 2 (N.c AO))).next=.o .h:=B
   have d:G.Aq.next=.h:=B;have e:([.i _ 0,.i _ 0])=N.c AO:=B;grind)
def UB(a:N):AY 209 [.S (N.c a)] (.b (Ao (a.Ak=0))):=Bu B B B ⟨G.Aq.V (.I 2 (N.c a)),by rw[sw];simp only[↓Q,↓QD,↓QC]⟩
def MD(a:N):AY 131 [.S (N.c a)] (.b (!Ao (a.Ak=0))):=Bu B B B ⟨G.Aq.V (.I 2 (N.c a)),by rw[r1];simp only[↓Q,↓QD,↓QC]⟩
def Xb(a:N):AY 149 [.S (N.c a)] (.b (Ao (a.Ak=5))):=Bu B B B ⟨G.Aq.V (.I 2 (N.c a)),by rw[sf];simp only[↓Q,↓QD,↓QC]⟩
def Xd(a:N):AY 246 [.S (N.c a)] (.b (Ao (a.Ak=5))):=Bu B B B ⟨G.Aq.V (.I 2 (N.c a)),by rw[sN];simp only[↓Q,↓QD,↓QC]⟩
def N9(a b c:K):AY 140 [.n a,.n b,.n c] (.b (BK a b c)):=Bu B B B ⟨G.Aq,by rw[r7];unfold BK;by_cases d:b<=a<;>by_cases e:a<=c<;>simp only[↓Q,↓QT,AdM,Int.reduceEq,d,e,Ad4,Ael,QB]⟩
def Gt(a:N)(b:K):Ah:=
 if a.Ak=0\/a.Ak=3 then Ao (a.n=0)
 else if a.Ak=1 then BK a.n (-1000000000) 1000000000
 else if a.Ak=2 then BK a.n 0 1
 else if a.Ak=4 then BK a.n 0 (b-1)
 else if a.Ak=5 then BK a.n 1 5
 else Aa
def W_(c:N)(f:K)(m:0<=f/\f<=1000000000):AY 122 [.S (N.c c),.n f] (.b (Gt c f)):=Bu B B B ⟨G.Aq.V (.I 2 (N.c c)),by
 have l:=FA (a:=f) (b:=1) (by omega) (by omega);have k:=Ch .n c.n 0;unfold Gt;rw[Ok.1];by_cases d:c.Ak=0;.simp only[QY,Int.reduceEq,d,Ok.2.2,true_or,reduceIte, *]
 by_cases e:c.Ak=3;.simp only[QY,Int.reduceEq,d,e,Ok.2.2,or_true,reduceIte, *]
 rw[Ad P];by_cases g:c.Ak=1;.simp only[QY,Int.reduceEq,d,e,g,Ok.2.2,(N9 c.n (-1000000000) 1000000000).H B,reduceIte]
 by_cases h:c.Ak=2;.simp only[QY,Int.reduceEq,d,e,g,h,Ok.2.2,(N9 c.n 0 1).H B,reduceIte]
 by_cases i:c.Ak=4;.simp only[QY,Int.reduceEq,d,e,g,h,i,Ok.2.2,(N9 c.n 0 (f-1)).H B,reduceIte, *]
 by_cases j:c.Ak=5;.simp only[QY,Int.reduceEq,d,e,g,h,i,j,Ok.2.2,(N9 c.n 1 5).H B,reduceIte]
 simp only[↓Q,↓QD,↓QT,AdM,Int.reduceEq,d,e,g,h,i,j,Ok.2.2,Ok.2.1,↓reduceIte]⟩
def Hd(a:N)(b:K):Ah:=
 if a.Ak=0\/a.Ak=3 then Ao (a.n=0)
 else if a.Ak=1 then BK a.n (-1000000000) 1000000000
 else if a.Ak=2 then Ao (a.n=0)||decide (a.n=1)
 else if a.Ak=4 then Ao (0<=a.n)&&(Ao (b<0)||decide (a.n<b))
 else if a.Ak=5 then BK a.n 1 5
 else Aa
def Z9(a:N)(f:K):AY 165 [.S (N.c a),.n f] (.b (Hd a f)):=Bu B B B ⟨G.Aq.V (.I 2 (N.c a)),by
 have l:=Ch .n a.n 0;unfold Hd;rw[Ol.1];by_cases b:a.Ak=0;.simp only[QY,Int.reduceEq,b,Ol.2.2,true_or,reduceIte, *]
 by_cases c:a.Ak=3;.simp only[QY,Int.reduceEq,b,c,Ol.2.2,or_true,reduceIte, *]
 rw[Ad P];by_cases d:a.Ak=1;.simp only[QY,Int.reduceEq,b,c,d,Ol.2.2,(Lz a.n (-1000000000) 1000000000).H B,reduceIte]
 by_cases e:a.Ak=2;.by_cases h:a.n=0<;>by_cases i:a.n=1<;>simp only[↓Q,↓QD,↓QT,AdM,Int.reduceEq,b,c,d,e,h,i,Ol.2.2,↓reduceIte,Ad4,Ael,QB]
 by_cases g:a.Ak=4;.by_cases h:0<=a.n<;>by_cases i:f<0<;>by_cases k:a.n<f<;>simp only[↓Q,↓QD,↓QT,AdM,Int.reduceEq,b,c,d,e,g,h,i,k,Ol.2.2,↓reduceIte,Ad4,Ael,QB]
 by_cases j:a.Ak=5;.simp only[QY,Int.reduceEq,b,c,d,e,g,j,Ol.2.2,(Lz a.n 1 5).H B,reduceIte]
 simp only[↓Q,↓QD,↓QT,AdM,Int.reduceEq,b,c,d,e,g,j,Ol.2.2,Ol.2.1,↓reduceIte]⟩
def Ph(b:N){a:K}(c:0<=a):Hd b a=Gt b a:=by
 unfold Hd Gt BK;split; ·rfl
 split; ·rfl
 split<;>grind
def Ie(a:N)(b:K):Ah:= !Ao (a.Ak=0)&&Gt a b
def p7(a:N)(b:K)(e:0<=b/\b<=1000000000):AY 226 [.S (N.c a),.n b] (.b (Ie a b)):=Bu B B B ⟨G.Aq.V (.I 2 (N.c a)),by have c:=UB a;unfold Ie;rw[sA];generalize Ao (a.Ak=0)=d at c⊢;cases d<;>simp only[QY,c.H B,(W_ a b e).H B,QB]⟩
def G3(a:K):N:=if BK a (-1000000000) 1000000000=L then EA a else Ed 2
def Sy(a:K):AY 232 [.n a] (.S (N.c (G3 a))):=Bu B B B (by
 have b:=N9 a (-1000000000) 1000000000;have c:=N_ 2;have d:=ab a;unfold G3;rw[hm.1];generalize BK a (-1000000000) 1000000000=e at b⊢;cases e
 .exact⟨_,by simp only[QY,b.H B,c.H B,d.H B,QB];rfl⟩
 .exact⟨_,by simp only[QY,b.H B,c.H B,d.H B,hm.2,QB];rfl⟩)
def q8(c d:K)(g:0<=c/\c<=1000000)(h:0<=d/\d<=1000000):AY 116 [.n c,.n d] (.n (1000*c+d)):=Bu B B B ⟨G.Aq,by
 have e:A6 .mul [.n 1000,.n c]=A (.n (1000*c)):=by rw[ZD,NL (by omega) (by omega)]
 have f:=F2 (a:=1000*c) (b:=d) (by omega) (by omega);rw[rX];grind⟩
def As(e:F)(d:T):Prop:=∀c b a w,e≠.Z d c b a w
theorem Cg(a:T):As .sn a:=λ_ _ _ _ b=>by grind
theorem EN{a b:T}{e d c w:D}(h:a≠b):As (.Z a e d c w) b:=λ_ _ _ _ g=>P
theorem As.ne{a e:T}{d c b w:D}(g:As (.Z a d c b w) e):e≠a:=λh=>g d c b w (by grind)
def Aw{t:Type}(d:G)(e:F)(f:t->C F)(w:D)(a:C t):Prop:=
 (e=.sn/\a=[])\/∃b c,e=.Z b 0 a.l c w/\(c=0\/c=a.l+1)/\d.M b=A (.I (a.l*w) (a.f f))/\Lv d b
def HD(d:F)(b c:G):Prop:=∀a,Lv b a->As d a->c.M a=b.M a/\Lv c a
theorem AH.WU{c:F}{a b:G}(d:AH a b):HD c a b:=λg e _=>P
theorem HD.M{d:F}{b c:G}(e:HD d b c){a:T}(h:Lv b a)(g:As d a):c.M a=b.M a:=(e a h g).1
theorem HD.lv{d:F}{b c:G}(e:HD d b c){a:T}(h:Lv b a)(g:As d a):Lv c a:=(e a h g).2
section
variable{t:Type} {f:t->C F} {w:D}
theorem Aw.sn(a:G):Aw a .sn f w ([]):=.i ⟨B,B⟩
theorem Aw.Ar{b c:G}{g:F}{e:C _}(d:Aw b g f w e)(k:∀a,Lv b a->¬As g a->c.M a=b.M a/\Lv c a):Aw c g f w e:=by
 rcases d with d|⟨h,i,j,l,o,m⟩;.exact .i d
 .have:=k h m (λn=>n 0 e.l i w j);exact .j ⟨h,i,j,l,P,P⟩
theorem Aw.ext{a b:G}{d:F}{c:C _}(e:Aw a d f w c)(g:AH a b):Aw b d f w c:=e.Ar P
theorem Mf(a:∀c,(f c).l=w):∀b:C _,(b.f f).l=b.l*w
 |[]=>by simp
 |c::d=>by rw[Aeh,AdY,a,Mf a d,Aec,Afe,Nat.add_comm]
theorem Vv{b:G}{j:F}{c a:C t}{i:D}(M:∀J,(f J).l=w)(s:Aw b j f w c)(z:(c.l+a.l)*i<=GA):∃q m,Jo b w i j a.l (a.f f)=A (q,m)/\Aw m q f w (c++a)/\HD j b m/\(∀e,Lv b e->As j e->As q e):=by
 by_cases o:a.l=0
 .have I:=AeV.1 o;subst I;refine⟨j,b,?_,by grind,λe h _=>⟨B,h⟩,P⟩;rcases s with⟨rfl,rfl⟩|⟨d,l,rfl,u,n,x⟩;.rfl
  .show Aj (AW w w) (Aj (AW 0 0) _ _) O=_;rw[Aee];rfl
 rcases s with⟨rfl,rfl⟩|⟨d,l,rfl,u,n,x⟩
 .refine⟨.Z b.next 0 a.l 0 w,b.V (.I (a.l*w) (a.f f)),?_,?_,(AH.V _ _).WU,?_⟩;.show Aj (AW a.l 0) _ (Aj (BX (a.l*i) GA) _ O)=_;rw[Gm o,AdX (by grind)];rfl
  .exact .j ⟨b.next,0,B,Om,P,P⟩
  .exactλe h _=>EN (λg=>by subst g;exact EX b h)
 .have p:(Aj (AW c.l 0) (A []) (b.AL d 0 (c.l*w)))=A (c.f f):=by
   by_cases g:c.l=0
   .have:=AeV.1 g;subst this;rfl
   .rw[Gm g];show b.AL d 0 (c.l*w)=_;rw[D1 n,Af (by omega),Af B]
  have r:Es (c.f f) (a.f f)=(c++a).f f:=by rw[KU,AfY]
  have E:(c++a).l=c.l+a.l:=by grind
  have v:∀k,Jo b w i (.Z d 0 c.l l w) a.l (a.f f)=k↔SC b d 0 c.l l w a.l (c.f f) (a.f f)=k:=λk=>by show Aj (AW w w) (Aj (AW a.l 0) _ (Aj (BX ((c.l+a.l)*i) GA) (match(Aj (AW c.l 0) (A []) (b.AL d 0 (c.l*w)))with|none=>O|some p=>SC b d 0 c.l l w a.l p (a.f f)) O)) O=k↔_;rw[Aee,Gm o,AdX z,p];grind
  rcases u with rfl|rfl
  .refine⟨F.Z b.next 0 (c.l+a.l) 0 w,(b.GG d).V (.I ((c.l+a.l)*w) ((c++a).f f)),(v _).2 ?_,?_,?_,?_⟩;.show Aj (Xo (b.M d)) (A (F.Z b.next 0 (c.l+a.l) 0 w,(b.GG d).V (.I ((c.l+a.l)*w) (Es (c.f f) (a.f f))))) O=_;rw[n,r];rfl
   .refine .j ⟨b.next,0,by grind,Om,?_,?_⟩;.rw[E];exact HM _ _
    .rw[<-(G.Tk _ _:(b.GG d).next=b.next)];grind
   .intro e h y;have H:Lv (b.GG d) e:=by rw[tZ];grind
    refine⟨?_,P⟩;rw[I6 H,rg,Ad y.ne]
   .exactλe h _=>EN (λg=>by subst g;exact EX b h)
  .refine⟨F.Z b.next 0 (c.l+a.l) 0 w,b.V (.I ((c.l+a.l)*w) ((c++a).f f)),(v _).2 ?_,?_,(AH.V _ _).WU,?_⟩;.show Aj _ _ _=_;rw[Qd (by omega),r];rfl
   .exact .j ⟨b.next,0,by grind,.i B,by grind,E9 _ _⟩
   .exactλe h _=>EN (λg=>by subst g;exact EX b h)
theorem Tt{b:G}{g:F}{c a:C t}{j:D}(l:∀i,(f i).l=w)(u:∀i,BU (f i)=L)(s:Aw b g f w c)(v:(c.l+a.l)*j<=GA):∃h d,DN w j b [g,Z f a]=A (h,d)/\Aw d h f w (c++a)/\HD g b d/\(∀k,Lv b k->As g k->As h k):=by
 let⟨h,d,e,y⟩:=Vv l s v
 refine⟨h,d,?_,y⟩;show(match Ii (Z f a)with|some n=>(match F7 b w n (Z f a)with|some o=>Aj (BU o) (Jo b w j g n o) O|none=>O)|none=>O)=_;have q:Ii (Z f a)=A a.l:=by unfold Z;show A _=_;grind
 have r:F7 b w a.l (Z f a)=A (a.f f):=by
  unfold Z;show Aj (BX a.l (a.m f).l&&((a.m f).all λe=>AW e.l w)) (A (((a.m f).t a.l).flatten)) O=_;have p:((a.m f).all λe=>AW e.l w)=L:=by rw[Aei];intro e x;obtain⟨i,_,rfl⟩:=Aeu.1 x;rw[l];exact Aee w
  rw[(AdX (by grind)),p,Aeq (by grind),List.flatMap_def];rfl
 rw[q];simp only[r];rw[(λc=>by
  induction c with
  |nil=>rfl
  |cons i z m=>rw[DJ]at m⊢;rw[Aeh,AeG,m,<-DJ,u];rfl:∀c:C t,BU (c.f f)=L)]
 grind
theorem VK{a:F}(b:T)(d:a.I.l=w):Dq 1 w b [a]=A (.I w a.I,.Z b 0 1 2 w):=by
 have c:TH w [a]=A a.I:=by show Aj (AW (Bq a.I) w) (A (Es a.I [])) O=_;rw[GK,d,Aee,KU,Ad5];rfl
 show Aj (AW (Bq [a]) 1) (match TH w [a]with|some e=>A (BV.I (1*w) e,F.Z b 0 1 2 w)|none=>O) O=_;rw[c,Nat.one_mul];rfl
theorem FJ{a:G}{d:F}{j:C t}{b:t}{o:F}{h:D}(r:∀b,(f b).l=w)(i:BU (f b)=L)(E:o.I=f b)(p:Aw a d f w j)(q:(j.l+1)*h<=GA):∃g e,(∀(k:F×G->R),((Dq 1 w a.next [o]).b λn=>(DN w h (G.V a n.1) [d,n.2]).b k)=k (g,e))/\Aw e g f w (j++[b])/\HD d a e/\(∀c,Lv a c->As d c->As g c):=by
 let⟨g,e,x,s,u,v⟩:=Vv (a:=[b]) r (p.ext (AH.V _ _):Aw (a.V (.I w (f b))) d f w j) q
 refine⟨g,e,λk=> ?_,s,λc l i=> ?_,λc l i=>v c (l.V _) i⟩
 .rw[H (VK a.next (by grind))];have z:DN w h (a.V (.I w (f b))) [d,.Z a.next 0 1 2 w]=A (g,e):=by
   have y:F7 (a.V (.I w (f b))) w 1 (.Z a.next 0 1 2 w)=A (f b):=by show Aj (AW w w&&BX 1 1) (Aj (AW 1 0) (A []) ((a.V (.I w (f b))).AL a.next 0 (1*w))) O=_;rw[Aee,Nat.one_mul,D1 (HM _ _),Af (by omega),Af B];rfl
   show(match F7 (a.V (.I w (f b))) w 1 (.Z a.next 0 1 2 w)with|some m=>Aj (BU m) (Jo (a.V (.I w (f b))) w h d 1 m) O|none=>O)=_;grind
  grind
 .have:=u c P i;grind
theorem Un(g:∀a,(f a).l=w):∀c:C _,Iy w c.l (c.f f)=c.m f
 |[]=>rfl
 |a::b=>by
  show(((a::b).f f).t w)::Iy w _ (((a::b).f f).d w)=_;have d:((a::b).f f).t w=f a:=by grind
  have e:((a::b).f f).d w=b.f f:=by grind
  rw[d,e,Un g b];rfl
theorem fB{a:G}{g:F}{b:C t}(k:∀i,(f i).l=w)(s:∀i,(f i).all Im=L)(m:Aw a g f w b):∃d,Dp a g=A (Z f b,d)/\HD g a d/\(∀c,As g c->d.M c=a.M c)/\d.next=a.next:=by
 rcases m with⟨rfl,rfl⟩|⟨l,p,rfl,q,n,r⟩;.exact⟨a,B,λc e _=>⟨B,e⟩,λ_ _=>B,B⟩
 .by_cases j:b.l=0;.have:=AeV.1 j;subst this;exact⟨a,B,λc e _=>⟨B,e⟩,P,B⟩
  .have o:((b.f f).d 0).t (b.l*w)=b.f f:=by
    rw[Ad7,Aeq (by rw[Mf k];grind)]
   refine⟨a.set l (.rc (b.l*w) (b.f f)),?_,?_,?_,G.Mr _ _ _⟩
   .rw[fC (by rw[n];rfl) j (by omega) (by grind),o,Un k];rfl
   .intro c e h;refine⟨?_,by grind⟩;rw[AN,Ad h.ne]
   .intro c h;rw[AN,Ad h.ne]
end
attribute [grind->] HD.M HD.lv
def NT(a:D)(b:T):Dq 0 a b []=A (.I 0 [],.Z b 0 0 1 a):=by show A (BV.I (0*a) [],F.Z b 0 0 1 a)=_;grind
def Rw{d:Type}(a:G)(c:d->C _)(b:D):Aw (a.V (.I 0 [])) (.Z a.next 0 0 1 b) c b ([]):=
 .j ⟨a.next,1,B,P,by grind,P⟩
variable{a b:D}
def DG(c:b*a<=100000000000):b*a<=GA:=c
variable{d:D}
def Gx{b:G}{e:T}{c:D}{f:C F}{a:F}(i:b.M e=A (.I c f))(j:d+1<=c)(m:c≠1)(k:a.I=[a])(l:Fl a=L):AX 1 b [.p e d,a]=A (AC,b.set e (.I c (Dg d [a] f))):=by
 show Aj _ (match b.Ep e d 1 a.I with|some h=>A (AC,h)|none=>O) O=_;have g:BU [a]=L:=by rw[DJ];grind
 rw[k,Ki (by rw[i];rfl),Af j,Ad Om,g];rfl
def jP{a:G}{b:T}{d:BV}(e:a.M b=A d)(c:T):(a.set b d).M c=a.M c:=by rw[AN];grind
def al(a:C AF)(g:a.l<1000000000):AY 86 [Z AF.c a] (Z AF.c a):=by
 let⟨h,e,b,d,_,_⟩:=Tt (w:=2) (a:=a) (j:=16) (λ_=>B) (λ_=>B) (Rw G.Aq AF.c 2) (DG (by grind))
 let⟨f,c,_⟩:=fB (w:=2) (λ_=>B) (λ_=>B) d
 refine EV B B ?_ c;rw[ta,H (NT 2 _),H b]
def Hy(a:Ab)(b:F):C F:=[.s a.A8,.n a.An,b,Z AF.c a.A_,Z AF.c a.Bk]
structure T1(f:Ab)(c d e:T)(a:G)(b:F)(g:C Au):Prop where
 hB:a.M c=A (.I 5 (Ab.c f))
 hO:a.M d=A (.I 5 (Hy f b))
 hR:a.M e=A (.I 5 [(.s []),(.n 0),.sn,.sn,.sn])
 lB:Lv a c
 lO:Lv a d
 lR:Lv a e
 o:Aw a b Au.c 4 g
 aB:As b c
 aO:As b d
 aR:As b e
variable{f:D}{g:Type}
def Cr{b:G}{a:F}{c:g->C _}{e:C _}(d:Aw b a c f e):a.I=[a]/\Fl a=L:=by rcases d with⟨rfl,_⟩|⟨h,i,rfl,_⟩<;>exact⟨B,B⟩
variable{e:G}
def lT{g:Ab}{l:D}{d:Au}(t:g.Av[l]? =A d)(s:g.Cl){i c j:T}(E:i≠c)(I:j≠c){u:F}{p:C Au}(U:p.l=l)(a:T1 g i c j e u p):∃k r,jj W9 42 4 [.n l,.p i 0,.p c 0,.p j 0] e=jj W9 42 3 [.n l,.p i 0,.p c 0,.p j 0] r/\T1 g i c j r k (p++[d]):=by
 have S:=(AdN.1 t).1;have V:=s.1;have b:AH e (e.V (.I 4 (Au.c d))):=AH.V _ _;have M:AX 1 (e.V (.I 4 (Au.c d))) [.p e.next 3,Z AF.c d.A3]=A (AC,e.V (.I 4 (Au.c d))):=by rw[Gx (HM _ _) (by omega) (by omega) B B,VN];rfl
 have J:(e.V (.I 4 (Au.c d))).Ap c 2=A u:=by rw[Ay ((b.M a.lO).t a.hO)];rfl
 let⟨k,n,z,q,h,m⟩:=FJ (f:=Au.c) (o:=.S (Au.c d)) (h:=56) (λ_=>B) B B (a.o.ext b) (DG (by omega))
 have X:=h.lv (b.lv a.lB) a.aB;have Y:=h.lv (b.lv a.lO) a.aO;have xa:=h.lv (b.lv a.lR) a.aR;have v:=m i (b.lv a.lB) a.aB;have w:=m c (b.lv a.lO) a.aO;have x:=m j (b.lv a.lR) a.aR;have N:AX 1 n [.p c 2,k]=A (AC,n.set c (.I 5 (Hy g k))):=by rw[Gx ((h.M (b.lv a.lO) a.aO).t ((b.M a.lO).t a.hO)) (by omega) (by omega) (Cr q).1 (Cr q).2];rfl
 refine⟨k,n.set c (.I 5 (Hy g k)),?_,?_⟩;.rw[S3.2.2.2.1];simp only[Q,QD,H (Ay a.hB 2),H (Qe t),(al d.A3 (by have:=(s.2.2.2.2.2 d P).1;omega)).H B,H M,H J,z,H N]
 .exact{
  hB:=by rw[AN,Ad E];exact((h.M (b.lv a.lB) a.aB).t ((b.M a.lB).t a.hB))
  hO:=by rw[AN,Af B]
  hR:=by rw[AN,Ad I];exact((h.M (b.lv a.lR) a.aR).t ((b.M a.lR).t a.hR))
  lB:=by grind
  lO:=by grind
  lR:=by grind
  o:=q.Ar λxb W R=>⟨by rw[AN,Ad P],by grind⟩
  aB:=v,aO:=w,aR:=x}
def tL{b:Ab}(o:b.Cl){h d f:T}(x:h≠d)(y:f≠d):∀g a e j,b.Av.l-a=g->a<=b.Av.l->T1 b h d f e j (b.Av.t a)->∃E n,jj W9 42 2 [.p h 0,.n a,.p d 0,.p f 0] e=jj W9 42 1 [.p d 0,.p f 0] n/\T1 b h d f n E b.Av:=by
 have M:=o.1
 intro g
 induction g with
 |zero=>
  intro a e j t u c;have k:¬(a:K)<b.Av.l:=by omega
  rw[Aeq (by omega)]at c;refine⟨j,e,?_,c⟩;rw[S3.2.2.1];simp only[Q,QC,H (Ay c.hB 2),k,reduceIte]
 |succ g w=>
  intro a e j t u c;have k:a<b.Av.l:=by omega
  let⟨I,v,N⟩:=Ds (b:=b.Av) (a:=a) (by omega)
  let⟨F,r,q,m⟩:=lT v o x y (by grind) c
  have z:b.Av.t a++[I]=b.Av.t (a+1):=by grind
  rw[z]at m;let⟨G,s,J,p⟩:=w (a+1) r F (by omega) (by omega) m
  refine⟨G,s,?_,p⟩;rw[S3.2.2.1];simp only[Q,QC,H (Ay c.hB 2),k,reduceIte];rw[q,S3.2.2.2.2];simp only[Q,H (Bh (a:=a) (by omega))];grind
def Qw(a:G->F->Ae (F×G))(b:G)(c:F)(d:C F):CT a b (c::d)=(a b c).b λe=>(CT a e.2 d).b λf=>A (e.1::f.1,f.2):=by show(match a b c with|none=>O|some (i,g)=>(match CT a g d with|none=>O|some (j,h)=>A (i::j,h)))=_;grind
variable{c:G}
def oR{d b:C F}{a:G}(e:CT (Df 39) c d=A (b,a)):Dp c (.S d)=A (.S b,a):=by show(match CT (Df 39) c d with|some (b,a)=>A (F.S b,a)|none=>O)=_;grind
def oP{l:Type}{c:l->C F}(k:D){b:G}{g:F}{a:C l}(j:∀h,(c h).l=d)(u:∀h,(c h).all Im=L)(n:Aw b g c d a):∃f,Df (k+2) b g=A (Z c a,f)/\(∀e,As g e->f.M e=b.M e)/\f.next=b.next:=by
 rcases n with⟨rfl,rfl⟩|⟨m,r,rfl,s,o,t⟩;.exact⟨b,B,P,B⟩
 .by_cases i:a.l=0;.have:=AeV.1 i;subst this;exact⟨b,B,P,B⟩
  .have q:((a.f c).d 0).t (a.l*d)=a.f c:=by
    rw[Ad7,Aeq (by rw[Mf j];grind)]
   refine⟨b.set m (.rc (a.l*d) (a.f c)),?_,?_,G.Mr _ _ _⟩
   .show Aj _ _ _=_;rw[Gm i,o];show Aj _ _ O=_;rw[AdX (by omega),q,N6 k b P];show A (F.CV (Iy d a.l (a.f c)),_)=_;rw[Un j];rfl
   .intro e p;rw[AN,Ad p.ne]
def qA(a:Ab)(g:a.Cl):AY 42 [.S (Ab.c a)] (.S (Ab.c a)):=by
 have t:=g.2.1;have u:=g.2.2.1;have l:Cb [(.s []),(.n 0),.sn,.sn,.sn] [(0,1),(1,1),(3,1),(4,1)] [.s a.A8,.n a.An,Z AF.c a.A_,Z AF.c a.Bk]=A (.S (Hy a .sn)):=B;have d:T1 a .h (.i .h) (.o .h) (((G.Aq.V (.I 5 (Ab.c a))).V (.I 5 [.s [],.n 0,.sn,.sn,.sn])).V (.I 5 (Hy a .sn))) .sn (a.Av.t 0):={
  hB:=B,hO:=B,hR:=B,lB:=((E9 G.Aq _).V _).V _,lO:=E9 _ _,lR:=(E9 (G.Aq.V _) _).V _,o:=Aw.sn _,aB:=Cg _,aO:=Cg _,aR:=Cg _}
 let⟨b,c,e,d⟩:=tL g (by grind) (by grind) a.Av.l 0 _ _ (by omega) (by omega) d
 rw[show((0:D):K)=0 from B]at e;have s:A9 5 c [.p (.i .h) 0]=A (.S (Hy a b)):=by rw[F5,D1 d.hO,Af B];rfl
 have i:BU (Hy a b)=L:=by rw[DJ];unfold Hy;simp[(Cr d.o).2]
 have z:AX 5 c [.p (.o .h) 0,.S (Hy a b)]=A (AC,c.set (.o .h) (.I 5 (Hy a b))):=by show Aj (Aj (AW (Bq (Hy a b)) 5) (BU (Hy a b)) Aa) (match c.Ep (.o .h) 0 5 (Hy a b)with|some m=>A (AC,m)|none=>O) O=_;rw[Ki (by rw[d.hR];rfl),i];rfl
 have x:A9 5 (c.set (.o .h) (.I 5 (Hy a b))) [.p (.o .h) 0]=A (.S (Hy a b)):=by rw[F5,D1 (by rw[AN,Af B]),Af B];rfl
 let⟨f,h,_⟩:=oP (d:=4) 37 (λ_=>B) (λ_=>B) (d.o.Ar λy v n=>⟨by rw[AN,Ad (λe=>by subst e;exact n d.aR)],by grind⟩:Aw (c.set (.o .h) (.I 5 (Hy a b))) b Au.c 4 a.Av)
 refine EV B B (e:=.S (Hy a b)) (c:=c.set (.o .h) (.I 5 (Hy a b))) ?_ (h:=f) ?_
 .have p:G.Aq.next=.h:=B;have q:(G.Aq.V (.I 5 (Ab.c a))).next=.o .h:=B
  have r:((G.Aq.V (.I 5 (Ab.c a))).V (.I 5 [.s [],.n 0,.sn,.sn,.sn])).next=.i .h:=B
  rw[S3.1];simp only[Q,QD,(al a.A_ (by omega)).H B,(al a.Bk (by omega)).H B,H l,QS,H (ET B B:AX 5 (((G.Aq.V (.I 5 (Ab.c a))).V (.I 5 [.s [],.n 0,.sn,.sn,.sn])).V (.I 5 [.s [],.n 0,.sn,.sn,.sn])) [.p ((G.Aq.V (.I 5 (Ab.c a))).V (.I 5 [.s [],.n 0,.sn,.sn,.sn])).next 0,.S (Hy a .sn)]=A (AC,(((G.Aq.V (.I 5 (Ab.c a))).V (.I 5 [.s [],.n 0,.sn,.sn,.sn])).V (.I 5 (Hy a .sn)))))];rw[p,q,r,e,S3.2.1];grind
 .refine oR ?_;unfold Hy;have j:Df 39 (c.set (.o .h) (.I 5 [.s a.A8,.n a.An,b,Z AF.c a.A_,Z AF.c a.Bk])) (.s a.A8)=A (.s a.A8,c.set (.o .h) (.I 5 [.s a.A8,.n a.An,b,Z AF.c a.A_,Z AF.c a.Bk])):=B;have k:Df 39 (c.set (.o .h) (.I 5 [.s a.A8,.n a.An,b,Z AF.c a.A_,Z AF.c a.Bk])) (.n a.An)=A (.n a.An,c.set (.o .h) (.I 5 [.s a.A8,.n a.An,b,Z AF.c a.A_,Z AF.c a.Bk])):=B;unfold Hy at h;rw[Qw,j,AdP,Qw,k,AdP,Qw,h,AdP,(B:CT (Df 39) f [Z AF.c a.A_,Z AF.c a.Bk]=A ([Z AF.c a.A_,Z AF.c a.Bk],f))];rfl
def hR{j:Type}{d:D}{g:D->j->G->R}{h:D->j->G->Prop}(l:∀a c b,a<d->h a c b->∃f e,g a c b=g (a+1) f e/\h (a+1) f e):∀i a c b,d-a=i->a<=d->h a c b->∃f e,g a c b=g d f e/\h d f e
 |0,a,c,b,p,o,k=>by
  have:a=d:=by omega
  subst this;grind
 |i+1,a,c,b,p,o,k=>by
  let⟨q,n,s,m⟩:=l a c b (by omega) k
  let⟨v,u,t,r⟩:=hR l i (a+1) q n (by omega) (by omega) m
  grind
variable{h:D}{i:Type}
def Dh{f:D->i->G->R}{g:D->i->G->Prop}(k:∀d b a,d<h->g d b a->∃e c,f d b a=f (d+1) e c/\g (d+1) e c){b:i}{a:G}(j:g 0 b a):∃e c,f 0 b a=f h e c/\g h e c:=
 hR k h 0 b a (by omega) (by omega) j
def Cm(c:a<b):(a:K)<b:=by omega
def CA(a:D):¬(a:K)<a:=by omega
def FL{e:Type}{b:C _}{c:e}(d:b[a]? =A c):b.t a++[c]=b.t (a+1):=by rw[List.take_add_one,d];rfl
def Gz{b:Type}(a:C b):a.t a.l=a:=Aeq (CK _)
def Bb{d:Type}{b:C d}(e:a<b.l):∃c,b[a]? =A c:=⟨b[a],by grind⟩
def g7(a:C Ab)(o:Cl a):AY 10 [Z Ab.c a] (Z Ab.c a):=by
 have z:=o.1;let⟨c,b,g,e⟩:=Dh (h:=a.l) (f:=λd c b=>jj W9 10 2 [Z Ab.c a,.n d,c] b) (g:=λd c b=>Aw b c Ab.c 5 (a.t d))
  (λd c b m e=>by
   let⟨k,j⟩:=Bb m
   have r:=qA k (Ss o j);let⟨u,t,E,p,_⟩:=FJ (f:=Ab.c) (b:=k) (o:=.S (Ab.c k)) (h:=96) (λ_=>B) B B e (DG (by grind))
   rw[FL j]at p;refine⟨u,t,?_,p⟩;have l:=Cm m;show jj W9 10 2 _ _=jj W9 10 2 _ _;rw[SM.2.2.1];simp only[QY,SM.2.2.2.1,H (CB j),r.H B,SM.2.2.2.2,H (Bh (a:=d) (by omega)), *])
  (b:=.sn) (a:=G.Aq) (Aw.sn _)
 rw[Gz]at e;let⟨v,q,_⟩:=fB (f:=Ab.c) (w:=5) (λ_=>B) (λ_=>B) e
 refine EV B B (e:=c) (c:=b) ?_ q;have l:=CA a.l;have g:jj W9 10 2 [Z Ab.c a,.n 0,.sn] G.Aq=jj W9 10 2 [Z Ab.c a,.n a.l,c] b:=g;rw[SM.1];simp only[↓Q,g];rw[SM.2.2.1];simp only[↓Q,↓QC,l,↓reduceIte,SM.2.1]
def am(a:C AF)(m:a.l<1000000000):AY 90 [Z AF.c a,Z AF.c a] (.b L):=Bu B B B (by
 let⟨_,b,e,_⟩:=Dh (h:=a.l) (f:=λc _ b=>jj W9 90 2 [Z AF.c a,Z AF.c a,.n c] b) (g:=λ_ _ _=>True)
  (λc _ b f _=>by
   let⟨g,k⟩:=Bb f
   have d:=Cm f;have l:FT L [0,0] [.S (AF.c g),.S (AF.c g)]=A (.b Aa):=by simp[AF.c]
   refine⟨(),b,?_,Aeb⟩;show jj W9 90 2 _ _=jj W9 90 2 _ _;rw[Rc.2.2.2.1];simp only[QY,Rc.2.2.2.2.1,H (IE k),Rc.2.2.2.2.2,H (Bh (a:=c) (by omega)), *])
  (b:=()) (a:=G.Aq) Aeb
 have e:jj W9 90 2 [Z AF.c a,Z AF.c a,.n 0] G.Aq=jj W9 90 2 [Z AF.c a,Z AF.c a,.n a.l] b:=e;have d:=CA a.l;have j:=DW .n a.l a.l;rw[A0 B]at j;refine⟨b,?_⟩;rw[Rc.1];simp only[QY,QB,Rc.2.1, *];rw[Rc.2.2.2.1];simp only[↓Q,↓QC,d,↓reduceIte,Rc.2.2.1])
def UJ{b:C _}{c:K}(d:b[a]? =A c):AR 1 [Z Be b,.n a]=A (.pi (Be c)):=EZ d B
def I9{b:C (C K)}{c:C K}(d:b[a]? =A c):AR 1 [Z Cv b,.n a]=A (.pi (Cv c)):=EZ d B
def Uf{b:C _}{c:Ah}(d:b[a]? =A c):AR 1 [Z CN b,.n a]=A (.pi (CN c)):=EZ d B
theorem tm(b:G)(a:K):AM b [.pi (Be a)]=A (.n a):=rfl
theorem Tb(b:G)(a:C K):AM b [.pi (Cv a)]=A (Z Be a):=rfl
theorem ti(b:G)(a:Ah):AM b [.pi (CN a)]=A (.b a):=rfl
def qE(a:C K)(m:a.l<1000000000):AY 19 [Z Be a,Z Be a] (.b L):=Bu B B B (by
 let⟨_,b,e,_⟩:=Dh (h:=a.l) (f:=λc _ b=>jj W9 19 2 [Z Be a,Z Be a,.n c] b) (g:=λ_ _ _=>True)
  (λc _ b f _=>by
   let⟨g,l⟩:=Bb f
   have d:=Cm f;have k:=DW .n g g;rw[A0 B]at k;refine⟨(),b,?_,Aeb⟩;show jj W9 19 2 _ _=jj W9 19 2 _ _;rw[Q0.2.2.2.1];simp only[QY,Q0.2.2.2.2.1,H (UJ l),H (tm _ _),QB,Q0.2.2.2.2.2,H (Bh (a:=c) (by omega)), *])
  (b:=()) (a:=G.Aq) Aeb
 have e:jj W9 19 2 [Z Be a,Z Be a,.n 0] G.Aq=jj W9 19 2 [Z Be a,Z Be a,.n a.l] b:=e;have d:=CA a.l;have j:=DW .n a.l a.l;rw[A0 B]at j;refine⟨b,?_⟩;rw[Q0.1];simp only[QY,QB,Q0.2.1, *];rw[Q0.2.2.2.1];simp only[↓Q,↓QC,d,↓reduceIte,Q0.2.2.1])
def lU{g:Ab}{o:D}{b:Au}(I:g.Av[o]? =A b)(z:g.Cl){j f:T}{a:G}(E:a.M j=A (.I 5 (Ab.c g)))(u:a.M f=A (.I 5 (Ab.c g)))(U:Lv a j)(M:Lv a f):∃e,jj W9 47 4 [.n o,.p j 0,.p f 0] a=jj W9 47 3 [.n o,.p j 0,.p f 0] e/\AH a e:=by
 have r:=DW .u8 b.op b.op;have s:=Ql b.A8 b.A8;have t:=DW .n b.n b.n;rw[A0 B]at r s t;have q:AH a ((a.V (.I 4 [.i .u8 0,.s [],.n 0,.sn])).V (.I 4 [.i .u8 0,.s [],.n 0,.sn])):=(AH.V _ _).AI (AH.V _ _);generalize J:([.i .u8 0,.s [],.n 0,.sn]:C F)=c at q;have v:AX 4 ((a.V (.I 4 c)).V (.I 4 c)) [.p a.next 0,.S (Au.c b)]=A (AC,((a.V (.I 4 c)).V (.I 4 c)).set a.next (.I 4 (Au.c b))):=by show Aj (Aj (AW (Bq (Au.c b)) 4) (BU (Au.c b)) Aa) (match G.Ep _ a.next 0 4 (Au.c b)with|some e=>A (AC,e)|none=>O) O=_;rw[Ki (by rw[((I6 (E9 a _) _).t (HM _ _))];rfl),Af B];rfl
 generalize m:((a.V (.I 4 c)).V (.I 4 c)).set a.next (.I 4 (Au.c b))=d at v;have R:(a.V (.I 4 c)).next≠a.next:=λy=>by have:=E9 a (.I 4 c);rw[<-y]at this;exact EX _ this
 have V:d.M a.next=A (.I 4 (Au.c b)):=by rw[<-m,AN,Af B]
 have N:d.M (a.V (.I 4 c)).next=A (.I 4 c):=by rw[<-m,AN,Ad R];exact(HM _ _:((a.V (.I 4 c)).V (.I 4 c)).M (a.V (.I 4 c)).next=A (.I 4 c))
 have w:AX 4 d [.p (a.V (.I 4 c)).next 0,.S (Au.c b)]=A (AC,d.set (a.V (.I 4 c)).next (.I 4 (Au.c b))):=by show Aj (Aj (AW (Bq (Au.c b)) 4) (BU (Au.c b)) Aa) (match G.Ep _ (a.V (.I 4 c)).next 0 4 (Au.c b)with|some e=>A (AC,e)|none=>O) O=_;rw[Ki (by rw[N];rfl),Af B];rfl
 have p:AH a d:=by rw[<-m];exact q.set (EX a) _
 have S:Bv .Cq [.p f 2] d (Z Au.c g.Av)=L:=by show KI (d.Ap f 2) _=L;rw[Ay ((p.M M).t u)];exact L0 _
 generalize n:d.set (a.V (.I 4 c)).next (.I 4 (Au.c b))=h at w
 have x:AH a h:=by rw[<-n];exact p.set (λi=>by have:=i;unfold Lv at this;rw[G.Gh,T.Fb]at this;omega) _
 have k:h.M a.next=A (.I 4 (Au.c b)):=by rw[<-n,AN,Ad P];grind
 have l:h.M (a.V (.I 4 c)).next=A (.I 4 (Au.c b)):=by rw[<-n,AN,Af B]
 refine⟨h,?_,x⟩;rw[Q7.2.2.2.2.1];simp only[↓Q,↓H (Ay E 2),↓H (Ay u 2),↓H (Qe I),↓(λ_ _=>by rw[J];rfl:∀(a:G) i,bl (.p a.next 0) (a.V (.I 4 [.i .u8 0,.s [],.n 0,.sn])) i=i (.p a.next 0) (a.V (.I 4 c))),↓H v,S,↓H w,↓H (Ay k 0),↓H (Ay k 1),↓H (Ay k 2),↓H (Ay k 3),↓H (Ay l 0),↓H (Ay l 1),↓H (Ay l 2),↓H (Ay l 3),↓H r,↓H s,↓H t,↓(am b.A3 (by have:=(z.2.2.2.2.2 b P).1;omega)).H B,QB,QS]
def qD(a:Ab)(e:a.Cl):AY 47 [.S (Ab.c a),.S (Ab.c a)] (.b L):=Bu B B B (by
 have o:=e.1;obtain⟨_,b,d,c⟩:=Dh (f:=λf _ b=>jj W9 47 2 [.p .h 0,.p (.o .h) 0,.n f] b) (g:=λ_ _ b=>b.M .h=A (.I 5 (Ab.c a))/\b.M (.o .h)=A (.I 5 (Ab.c a))/\Lv b .h/\Lv b (.o .h))
  (λf _ b g c=>by obtain⟨q,n⟩:=Bb g;obtain⟨m,d,h⟩:=lU n e c.1 c.2.1 P c.2.2.2;refine⟨(),m,?_,P,P,P,h.lv c.2.2.2⟩;rw[Q7.2.2.2.1];simp only[Q,QC,H (Ay c.1 2),(Cm g),reduceIte,d,Q7.2.2.2.2.2,H (Bh (a:=f) (by omega))])
  (b:=()) ⟨B,B,(E9 G.Aq _).V _,E9 _ _⟩
 have d:jj _ 47 2 [.p .h 0,.p (.o .h) 0,.n 0] ((G.Aq.V (.I 5 (Ab.c a))).V (.I 5 (Ab.c a)))=jj W9 47 2 [.p .h 0,.p (.o .h) 0,.n a.Av.l] b:=d;have j:=Ql a.A8 a.A8;have k:=DW .n a.An a.An;have l:=DW .n a.Av.l a.Av.l;rw[A0 B]at j k l;have p:jj W9 47 5 [.p G.Aq.next 0,.p (G.Aq.V (.I 5 (Ab.c a))).next 0] ((G.Aq.V (.I 5 (Ab.c a))).V (.I 5 (Ab.c a)))=A (.b L,b):=by rw[Q7.2.1];show jj W9 47 2 [.p .h 0,.p (.o .h) 0,.n 0] _=_;rw[d,Q7.2.2.2.1];simp only[Q,QC,H (Ay c.1 2),(CA a.Av.l),reduceIte,Q7.2.2.1]
 refine⟨b,?_⟩;rw[Q7.1];simp only[QY,(am a.A_ (by have:=e.2.1;omega)).H B,(am a.Bk (by have:=e.2.2.1;omega)).H B,QB, *])
def ph(a:C Ab)(f:Cl a):AY 15 [Z Ab.c a,Z Ab.c a] (.b L):=Bu B B B (by
 have l:=f.1;obtain⟨_,b,c,_⟩:=Dh (f:=λd _ b=>jj W9 15 2 [Z Ab.c a,Z Ab.c a,.n d] b) (g:=λ_ _ _=>True)
  (λd _ b e _=>by obtain⟨k,g⟩:=Bb e;have j:=qD k (Ss f g);refine⟨(),b,?_,Aeb⟩;rw[QO.2.2.2.1];simp only[QY,(Cm e),QO.2.2.2.2.1,CB g,j.H B,QO.2.2.2.2.2,Bh (a:=d) (by omega)])
  (b:=()) Aeb
 have c:jj W9 15 2 [Z Ab.c a,Z Ab.c a,.n 0] G.Aq=jj W9 15 2 [Z Ab.c a,Z Ab.c a,.n a.l] b:=c;have h:=DW .n a.l a.l;rw[A0 B]at h;refine⟨b,?_⟩;rw[QO.1];simp only[QO.2.1,c];rw[QO.2.2.2.1];simp only[Q,QC,(CA a.l),reduceIte,QO.2.2.1])
def AQ.Cl(a:AQ):Prop:=a.l.l<2000000/\a.BT.l<2000000/\∀b∈a.l,b.l<2000000
def pn(a:AQ)(o:a.Cl):AY 16 [.S (AQ.c a),.S (AQ.c a)] (.b L):=Bu B B B (by
 have N:=o.1;have P:=o.2.1;have j:((G.Aq.V (.I 2 (AQ.c a))).V (.I 2 (AQ.c a))).M .h=A (.I 2 (AQ.c a)):=B;have k:((G.Aq.V (.I 2 (AQ.c a))).V (.I 2 (AQ.c a))).M (.o .h)=A (.I 2 (AQ.c a)):=B;generalize w:(G.Aq.V (.I 2 (AQ.c a))).V (.I 2 (AQ.c a))=r at j k;have S:=Ay j 0;have T:=Ay j 1;have Q:=Ay k 0;have R:=Ay k 1;let⟨_,b,l,f⟩:=Dh (h:=a.BT.l) (f:=λd _ b=>jj W9 16 2 [.p .h 0,.p (.o .h) 0,.n d] b) (g:=λ_ _ b=>b=r)
  (λd _ b g f=>by
   subst f;obtain⟨e,h⟩:=Bb g;have J:Fi L [.b e,.b e]=A (.b Aa):=by rw[ZF];cases e<;>rfl
   refine⟨(),b,?_,B⟩;rw[Mi.2.2.2.2.2.2.2.1];simp only[QY,(Cm g),Mi.2.2.2.2.2.2.2.2.1,H (Uf h),H (ti _ _),Mi.2.2.2.2.2.2.2.2.2,H (Bh (a:=d) (by omega)), *])
  (b:=()) B
 subst f;have l:jj W9 16 2 [.p .h 0,.p (.o .h) 0,.n 0] b=jj W9 16 2 [.p .h 0,.p (.o .h) 0,.n a.BT.l] b:=l;obtain⟨_,c,m,x⟩:=Dh (f:=λd _ b=>jj W9 16 6 [.n d,.p .h 0,.p (.o .h) 0] b) (g:=λ_ _ c=>c=b)
  (λd _ c g f=>by subst f;obtain⟨e,h⟩:=Bb g;have v:=qE e (by have:=o.2.2 e (AdU h);omega);refine⟨(),c,?_,B⟩;rw[Mi.2.2.2.1];simp only[QY,(Cm g),Mi.2.2.2.2.1,H (I9 h),H (Tb _ _),v.H B,Mi.2.2.2.2.2.1,H (Bh (a:=d) (by omega)), *])
  (b:=()) B
 subst x;have m:jj W9 16 6 [.n 0,.p .h 0,.p (.o .h) 0] c=jj W9 16 6 [.n a.l.l,.p .h 0,.p (.o .h) 0] c:=m;have t:=DW .n a.l.l a.l.l;have u:=DW .n a.BT.l a.BT.l;rw[A0 B]at t u;have y:jj W9 16 2 [.p .h 0,.p (.o .h) 0,.n 0] c=A (.b L,c):=by rw[l,Mi.2.2.2.2.2.2.2.1];simp only[QY,(CA a.BT.l),Mi.2.2.2.2.2.2.1, *]
 have M:jj W9 16 9 [.p .h 0,.p (.o .h) 0] c=A (.b L,c):=by rw[Mi.2.1,m,Mi.2.2.2.1];simp only[QY,(CA a.l.l),reduceIte,Mi.2.2.1,y, *]
 refine⟨c,?_⟩;have z:G.Aq.next=.h:=B;have E:(G.Aq.V (.I 2 (AQ.c a))).next=.o .h:=B
 have q:∀(b:G) p,bl (.p b.next 0) (b.V (.I (Bq (F.I (.S (AQ.c a)))) (F.I (.S (AQ.c a))))) p=p (.p b.next 0) (b.V (.I 2 (AQ.c a))):=λ_ _=>B;rw[Mi.1,q,q,w,z,E];simp only[QY,QB, *])
def FC(c d:G):Prop:=(∀b a f,DR (c.M b)=A (a,f)->DR (d.M b)=A (a,f))/\(∀b a e,HQ (c.M b)=A (a,e)->HQ (d.M b)=A (a,e))
def FC.refl(a:G):FC a a:=⟨P,P⟩
def FC.AI{f g:G}(h:FC e f)(i:FC f g):FC e g:=⟨λc b a d=>i.1 c b a (h.1 c b a d),λc b a d=>i.2 c b a (h.2 c b a d)⟩
def FC.rc{e:T}{g:C F}(b:DR (c.M e)=A (h,g)):FC c (c.set e (.rc h g)):=by
 constructor
 .intro i j m a;rw[AN];split;.rename_i d;subst d;rw[b]at a;exact a
  omega
 .intro i j l a;rw[AN];split
  .rename_i d;subst d
   exfalso
   cases f:c.M i with
   |none=>rw[f]at b;cases b
   |some k=>rw[f]at b a;cases k<;>first|(cases b;done)|(cases a;done)
  omega
def Fz(e:D)(c:G)(g d:F):Prop:=∀f a,FC c a->∃b,Df (f+e) a g=A (d,b)/\FC a b
def Cw(e:D)(c:G)(g d:C F):Prop:=∀f a,FC c a->∃b,CT (Df (f+e)) a g=A (d,b)/\FC a b
def Fz.im{a:F}(d:Im a=L):Fz 1 c a a:=λe b _=>⟨b,UA e b d,FC.refl _⟩
def Fz.sn(a:G):Fz 1 a .sn (.CV []):=λc b _=>⟨b,B,FC.refl _⟩
def Fz.up{e d:F}(g:Fz a c e d)(m:a<=b):Fz b c e d:=λh f i=>by
 let⟨j,k,l⟩:=g (h+(b-a)) f i
 grind
def Cw.nil(c:D)(a:G):Cw c a [] []:=λd b _=>⟨b,B,FC.refl _⟩
def Cw.cons{a:G}{h d:F}{i e:C F}(n:Fz b a h d)(o:Cw b a i e):Cw b a (h::i) (d::e):=λf p g=>by
 let⟨q,k,c⟩:=n f _ g
 let⟨j,l,m⟩:=o f _ (g.AI c)
 exact⟨j,by rw[Qw,k,AdP,l];rfl,c.AI m⟩
def Z5(a:G->F->Ae (F×G)):∀f c b,CT a b (f++c)=(CT a b f).b λe=>(CT a e.2 c).b λd=>A (e.1++d.1,d.2)
 |[],c,b=>by show CT a b c=(CT a b c).b λd=>A ([]++d.1,d.2);cases CT a b c<;>rfl
 |g::f,c,b=>by
  rw[List.cons_append,Qw,Qw]
  cases a b g with
  |none=>rfl
  |some e=>
   rw[AdP,AdP,Z5 a _ _]
   cases CT a _ _ with
   |none=>rfl
   |some d=>rw[AdP];show _=(CT a _ _).b _;cases CT a _ _<;>rfl
def Cw.Es{a:G}{h c i d:C F}(o:Cw b a h c)(q:Cw b a i d):Cw b a (h++i) (c++d):=by
 intro e j f;let⟨k,m,g⟩:=o e j f
 let⟨l,n,p⟩:=q e k (f.AI g)
 refine⟨l,?_,g.AI p⟩;rw[Z5,m,AdP,n];rfl
inductive FN{b c:Type}(a:b->c->Prop):C b->C c->Prop where
 |nil:FN a [] []
 |cons {f:b} {g:c} {d:C b} {e:C c} (h:a f g) (i:FN a d e):FN a (f::d) (g::e)
def FN.A7{f:Type}{c:f->g->Prop}{a:C _}{b:C _}(d:FN c a b):a.l=b.l:=by
 induction d with
 |nil=>rfl
 |cons _ _ e=>rw[Aec,Aec,e]
def FN.VS{h:Type}{a:g->h->Prop}{c:C _}{d:C _}{e:g}{f:h}(b:FN a c d)(j:a e f):FN a (c++[e]) (d++[f]):=by
 induction b with
 |nil=>exact .cons j .nil
 |cons b _ i=>exact .cons b i
def FN.imp{j k:Type}{b c:j->k->Prop}{d:C _}{e:C _}(a:FN b d e)(i:∀f g,b f g->c f g):FN c d e:=by
 induction a with
 |nil=>exact .nil
 |cons a _ h=>exact .cons (i _ _ a) h
def Cw.Oh{c:G}:∀{a:C _},a.all Im=L->Cw 1 c a a
 |[],_=>Cw.nil 1 c
 |d::a,b=>by rw[Aer,AdO]at b;exact Cw.cons (Fz.im b.1) (Cw.Oh b.2)
def Cw.ZZ{h:Type}{a:G}{d:i->C F}{e:h->C F}{f:C h}{g:C i}(c:FN (λk l=>Cw b a (d k) (e l)) g f):Cw b a (g.f d) (f.f e):=by
 induction c with
 |nil=>exact Cw.nil b a
 |cons c m j=>rw[Aeh];exact Cw.Es c j
def Fz.Z{i:G}{d:T}{v c:D}{t m e:C F}(y:DR (i.M d)=A (b,e))(z:f+a*c<=b)(E:(e.d f).t (a*c)=t)(x:Cw h i t m):Fz (h+1) i (.Z d f a v c) (.CV (Iy c a m)):=by
 intro k g r;by_cases n:a=0;.subst n;exact⟨g,B,FC.refl _⟩
 have o:=r.1 d b e y;let⟨u,w,s⟩:=x k g r
 refine⟨u.set d (.rc b e),?_,s.AI (FC.rc (s.1 d b e o))⟩;show Aj (AW a 0) _ (match DR (g.M d)with|some (b,q)=>Aj (BX (f+a*c) b) (match CT (Df (k+h)) g ((q.d f).t (a*c))with|some (l,j)=>A (F.CV (Iy c a l),j.set d (.rc b q))|none=>O) O|none=>O)=_;rw[Gm n,o];show Aj (BX (f+a*c) b) (match CT (Df (k+h)) g ((e.d f).t (a*c))with|some (l,j)=>A (F.CV (Iy c a l),j.set d (.rc b e))|none=>O) O=_;rw[AdX z,E,w];rfl
def Fz.M0{r s:Type}{j:D}{h:T}{i:D}{b:C s}{q:C r}{f:s->C F}{g:r->C F}(v:∀a,(f a).l=d)(u:∀a,(g a).l=d)(t:DR (e.M h)=A (b.l*d,b.f f))(l:FN (λa x=>Cw j e (f a) (g x)) b q):Fz (j+1) e (.Z h 0 b.l i d) (YtbmnfifnenajjaaGreat.Z g q):=by have m:=l.A7;have k:=Fz.Z (v:=i) (f:=0) (c:=d) (a:=b.l) t (by omega) (by rw[Ad7,Aeq (by rw[Mf v];grind)]) (Cw.ZZ l);rw[m,Un u]at k;rw[m];exact k
def Fz.Cs{m:Type}{g:F}{b:m->C _}{d:C _}(f:∀a,(b a).l=h)(k:∀a,(b a).all Im=L)(i:Aw c g b h d):Fz 2 c g (YtbmnfifnenajjaaGreat.Z b d):=by
 rcases i with⟨rfl,rfl⟩|⟨n,o,rfl,j,e,_⟩;.exact(Fz.sn c).up (by omega)
 .refine Fz.M0 f f (by rw[e];rfl) ?_
  clear e j
  induction d with
  |nil=>exact .nil
  |cons a q l=>exact .cons (Cw.Oh (k a)) l
def Fz.Rt{l m:Type}{a:G}{k:F}{c:m->C _}{d:l->C F}{j:C m}{i:C l}(v:1<=b)(s:∀e,(c e).l=f)(q:∀g,(d g).l=f)(n:Aw a k c f j)(h:FN (λe g=>Cw b a (c e) (d g)) j i):Fz (b+1) a k (YtbmnfifnenajjaaGreat.Z d i):=by
 rcases n with⟨rfl,r⟩|⟨t,u,rfl,_,o,_⟩;.have:=AeV.1 (by rw[<-h.A7,r];rfl);subst this;exact(Fz.sn a).up (by omega)
 .exact Fz.M0 s q (by rw[o];rfl) h
def Fz.S{b e:C F}(i:Cw a c b e):Fz (a+1) c (.S b) (.S e):=λf d l=>by
 let⟨g,h,m⟩:=i f d l
 refine⟨g,?_,m⟩;show(match CT (Df (f+a)) d b with|some (k,j)=>A (F.S k,j)|none=>O)=_;rw[h]
def Fz.AB{b e:C F}(i:Cw a c b e):Fz (a+1) c (.AB b) (.AB e):=λf d l=>by
 let⟨g,h,m⟩:=i f d l
 refine⟨g,?_,m⟩;show(match CT (Df (f+a)) d b with|some (k,j)=>A (F.AB k,j)|none=>O)=_;rw[h]
def Fz.Dp{b:G}{f e:F}(h:Fz a b f e)(i:a<=40):∃c,Go.Fg.Dp b f=A (e,c)/\FC b c:=by
 let⟨c,d,g⟩:=h (40-a) b (FC.refl _)
 rw[show 40-a+a=40 by omega]at d;exact⟨c,d,g⟩
def Fz.Oc{c:D}{b:C F}{f e:F}{d:G}(l:MI a)(k:KX (pos a)=Aa)(g:xx W9 a b G.Aq=A (f,d))(i:Fz c d f e)(j:c<=40):AY a b e:=by
 let⟨m,h,_⟩:=i.Dp j
 exact EV l k g h
def M9(a:F):C F:=[a]
def M5{c:Type}(d:c->C F)(h:D)(f:C T)(e:G)(g:F)(b:F)(i:C c):Prop:=Aw e b d h i/\(∀a,¬As b a->As g a)/\∀a∈f,As b a
def M5.Ar{x:Type}{k:x->C _}{n:C T}{d:G}{g p o:F}{q:C _}(r:M5 k h n d g o q)(b:HD g d e)(y:∀a,Lv d a->As g a->As p a):M5 k h n e p o q:=by
 let⟨w,v,m⟩:=r
 rcases w with⟨rfl,rfl⟩|⟨c,j,rfl,s,t,l⟩;.exact⟨Aw.sn e,λa f=>BF (Cg a) f,m⟩
 .have i:=v c (λu=>u 0 _ j h B);refine⟨.j ⟨c,j,B,s,(b.M l i).t t,b.lv l i⟩,λa f=> ?_,m⟩;by_cases b:c=a;.grind
  .exact BF (EN b) f
def Aw.li{a:G}{b:F}{d:i->C _}{f:C _}(g:Aw a b d h f):As b a.next:=by
 rcases g with⟨rfl,_⟩|⟨j,k,rfl,_,_,e⟩;.exact Cg _
 .exact EN λc=>by subst c;exact EX a e
structure Wb(g:AQ)(d e f:T)(a:G)(b:F)(i:C F)(c:F)(j:D):Prop where
 hI:a.M d=A (.I 2 (AQ.c g))
 hO:a.M e=A (.I 2 [b,c])
 hR:a.M f=A (.I 2 [.sn,.sn])
 lI:Lv a d
 lO:Lv a e
 lR:Lv a f
 o:Aw a b M9 1 i
 all:FN (M5 Be 1 [d,e,f] a b) i (g.l.t j)
 aI:As b d
 aO:As b e
 aR:As b f
 ow:Aw a c CN 1 g.BT
 aw:∀h,¬As c h->As b h
 wI:As c d
 wO:As c e
 wR:As c f
def lW{g:AQ}{n:D}{z:C K}(v:g.l[n]? =A z)(Y:g.Cl){h b i:T}(xi:h≠b)(xj:i≠b){k:G}{t p:F}{y:C F}(a:Wb g h b i k t y p n):∃j f W,jj W9 11 4 [.n n,.p h 0,.p b 0,.p i 0] k=jj W9 11 3 [.n n,.p h 0,.p b 0,.p i 0] W/\Wb g h b i W j (y++[f]) p (n+1):=by
 have xo:=(AdN.1 v).1;have xr:=Y.1;have xt:=Y.2.2 z (AdU v);have xq:y.l=n:=by rw[a.all.A7,Aef];omega
 have E:AH k (k.V (.I 0 [])):=AH.V _ _;let⟨f,u,xu,J,xe,xc⟩:=Tt (w:=1) (a:=z) (j:=8) (λ_=>B) (λ_=>B) (Rw k Be 1) (DG (by grind))
 have e:AH k u:=λc d=>by have:=xe c (E.lv d) (EN λs=>by subst s;exact EX k d);grind
 have N:=λc d=>xc c (E.lv d) (EN λs=>by subst s;exact EX k d);have xl:Bv .Cq [.p b 0] u t=L:=by show KI (u.Ap b 0) t=L;rw[Ay ((e.M a.lO).t a.hO)];exact L0 _
 let⟨j,m,xh,I,l,q⟩:=FJ (w:=1) (b:=f) (h:=24) (λ_=>B) (by rw[DJ];simp[M9,(Cr J).2]) (Cr J).1 (a.o.ext e) (DG (by grind))
 have S:=q b (e.lv a.lO) a.aO;have xv:AX 1 m [.p b 0,j]=A (AC,m.set b (.I 2 [j,p])):=by rw[Gx ((l.M (e.lv a.lO) a.aO).t ((e.M a.lO).t a.hO)) (by omega) (by omega) (Cr I).1 (Cr I).2];rfl
 have xm:M5 Be 1 [h,b,i] u t f z:=by
  refine⟨J,λc d=> ?_,?_⟩
  rotate_left
  .intro c d;simp only[Ad6,Ae2,Ae3]at d;rcases d with rfl|rfl|rfl;.exact N _ a.lI
   .exact N _ a.lO
   .exact N _ a.lR
  by_cases xp:Lv k c
  .grind
  .rcases a.o with⟨rfl,_⟩|⟨U,xd,rfl,_,_,xf⟩;.exact Cg c
   .exact EN P
 have M:∀{xb:Type}{V:xb->C F}{xa:D}{R:F}{Z:C xb},Aw m R V xa Z->As R b->Aw (m.set b (.I 2 [j,p])) R V xa Z:=λxk xn=>xk.Ar λc d X=>⟨by rw[AN,Ad P],by grind⟩;refine⟨j,f,m.set b (.I 2 [j,p]),?_,?_⟩;.rw[SO.2.2.2.1];simp only[Q,H (Ay a.hO 0),H (NT 1 _),H (Ay ((E.M a.lI).t a.hI) 0),H (I9 v),H (Tb _ _),xl,Lq,xh,ZR, *]
 .have xg:FN (M5 Be 1 [h,b,i] m j) (y++[f]) (g.l.t (n+1)):=by
   rw[<-FL v]
   exact(a.all.imp (λf g r=>(r.Ar e.WU P).Ar l q:∀f g,M5 Be 1 [h,b,i] k t f g->M5 Be 1 [h,b,i] m j f g)).VS (xm.Ar l q)
  exact{
   hI:=by rw[AN,Ad xi];exact((l.M (e.lv a.lI) a.aI).t ((e.M a.lI).t a.hI))
   hO:=by rw[AN,Af B]
   hR:=by rw[AN,Ad xj];exact((l.M (e.lv a.lR) a.aR).t ((e.M a.lR).t a.hR))
   lI:=by rw[K9];exact l.lv (e.lv a.lI) a.aI
   lO:=by rw[K9];exact l.lv (e.lv a.lO) a.aO
   lR:=by rw[K9];exact l.lv (e.lv a.lR) a.aR
   o:=M I S
   all:=xg.imp (λf g r=>⟨M r.1 (r.2.2 b (by simp)),r.2⟩:∀f g,M5 Be 1 [h,b,i] m j f g->M5 Be 1 [h,b,i] (m.set b (.I 2 [j,p])) j f g)
   aI:=(q h (e.lv a.lI) a.aI),aO:=S,aR:=(q i (e.lv a.lR) a.aR)
   ow:=M ((a.ow.ext e).Ar λc d X=>l c d (a.aw c X)) a.wO
   aw:=λc d=>q c (e.lv ((λc d=>by
  rcases a.ow with⟨rfl,_⟩|⟨U,xd,rfl,_,_,xf⟩
  .exact BF (Cg c) d
  .by_cases s:U=c
   .grind
   .exact BF (EN s) d:∀c,¬As p c->Lv k c) c d)) (a.aw c d)
   wI:=a.wI,wO:=a.wO,wR:=a.wR}
def g8(c:AQ)(q:c.Cl):AY 11 [.S (AQ.c c)] (.S (AQ.c c)):=by
 have xy:=q.1;have xz:=q.2.1;let⟨a,d,r,y,l,P⟩:=Tt (w:=1) (a:=c.BT) (j:=1) (λ_=>B) (λ_=>B) (Rw ((G.Aq.V (.I 2 (AQ.c c))).V (.I 2 [.sn,.sn])) CN 1) (DG (by grind))
 have r:DN 1 1 (((G.Aq.V (.I 2 (AQ.c c))).V (.I 2 [.sn,.sn])).V (.I 0 [])) [.Z (.i .h) 0 0 1 1,Z CN c.BT]=A (a,d):=r;have z:As (.Z (.i .h) 0 0 1 1) .h:=EN (by grind);have E:As (.Z (.i .h) 0 0 1 1) (.o .h):=EN (by grind);have t:Lv (((G.Aq.V (.I 2 (AQ.c c))).V (.I 2 [.sn,.sn])).V (.I 0 [])) .h:=((E9 G.Aq _).V _).V _;have u:Lv (((G.Aq.V (.I 2 (AQ.c c))).V (.I 2 [.sn,.sn])).V (.I 0 [])) (.o .h):=(E9 (G.Aq.V _) _).V _;have m:=l.lv t z;have n:=l.lv u E;have xn:=P _ t z;have xp:=P _ u E;have xo:=y.li;have h:AH d (d.V (.I 2 [.sn,a])):=AH.V _ _;have v:T.h≠d.next:=λg=>by rw[g]at m;exact EX _ m
 have x:(T.o .h)≠d.next:=λg=>by rw[g]at n;exact EX _ n
 obtain⟨⟨f,xC⟩,b,g,e⟩:=Dh (f:=λj k b=>jj W9 11 2 [.p .h 0,.n j,.p d.next 0,.p (.o .h) 0] b) (g:=λj k b=>Wb c .h d.next (.o .h) b k.1 k.2 a j)
  (λj k b U e=>by obtain⟨xq,xj⟩:=Bb U;obtain⟨xm,xa,p,g,xc⟩:=lW xj q v x e;refine⟨(xm,k.2++[xa]),p,?_,xc⟩;rw[SO.2.2.1];simp only[Q,QC,H (Ay e.hI 0),QD,(Cm U),reduceIte,g,SO.2.2.2.2,H (Bh (a:=j) (by omega))])
  (b:=(.sn,[])) ({
  hI:=(h.M m).t (l.M t z),hO:=HM _ _,hR:=(h.M n).t (l.M u E),lI:=h.lv m,lO:=E9 _ _,lR:=h.lv n
  o:=Aw.sn _,all:=.nil,aI:=Cg _,aO:=Cg _,aR:=Cg _,ow:=y.ext h,aw:=λ_ _=>Cg _,wI:=xn,wO:=xo,wR:=xp}:Wb c .h d.next (.o .h) (d.V (.I 2 [.sn,a])) .sn [] a 0)
 have g:jj W9 11 2 [.p .h 0,.n 0,.p d.next 0,.p (.o .h) 0] (d.V (.I 2 [.sn,a]))=jj W9 11 2 [.p .h 0,.n c.l.l,.p d.next 0,.p (.o .h) 0] b:=g;have xf:=CA c.l.l;have xd:BU [f,a]=L:=by rw[DJ];simp[(Cr e.o).2,(Cr e.ow).2]
 have xw:A9 2 b [.p d.next 0]=A (.S [f,a]):=by rw[F5,D1 e.hO,Af (by omega),Af B];rfl
 have xB:AX 2 b [.p (.o .h) 0,.S [f,a]]=A (AC,b.set (.o .h) (.I 2 [f,a])):=by show Aj (Aj (AW (Bq [f,a]) 2) (BU [f,a]) Aa) (match b.Ep (.o .h) 0 2 [f,a]with|some p=>A (AC,p)|none=>O) O=_;rw[Ki (by rw[e.hR];rfl),Af (by omega),Af B,xd];rfl
 have xx:A9 2 (b.set (.o .h) (.I 2 [f,a])) [.p (.o .h) 0]=A (.S [f,a]):=by rw[F5,D1 (by rw[AN,Af B]),Af (by omega),Af B];rfl
 have J:∀{xb:Type}{S:xb->C F}{Y:D}{M:F}{X:C xb},Aw b M S Y X->As M (.o .h)->Aw (b.set (.o .h) (.I 2 [f,a])) M S Y X:=λxl xr=>xl.Ar λxA xv xu=>⟨by rw[AN,Ad (λg=>by grind)],by grind⟩;have N:=e.all;rw[Gz]at N;have xh:=N.imp λxa xq V=>by have:=Fz.Cs (h:=1) (λ_=>B) (λ_=>B) (J V.1 (V.2.2 _ (by simp)));exact Cw.cons this (Cw.nil _ _)
 have xi:=Fz.Rt (f:=1) (by omega) (λ_=>B) (λ_=>B) (J e.o e.aR) xh;refine Fz.Oc B B ?_ (Fz.S (Cw.cons xi (Cw.cons ((Fz.Cs (h:=1) (λ_=>B) (λ_=>B) (J e.ow e.wR)).up (by omega):Fz 3 (b.set (.o .h) (.I 2 [f,a])) a (Z CN c.BT)) (Cw.nil _ _)))) (by omega);have xk:G.Aq.next=.h:=B;have v:(G.Aq.V (.I 2 (AQ.c c))).next=.o .h:=B
 have x:((G.Aq.V (.I 2 (AQ.c c))).V (.I 2 [.sn,.sn])).next=.i .h:=B
 have xg:Cb [.sn,.sn] [(1,1)] [a]=A (.S [.sn,a]):=by rcases y with⟨rfl,_⟩|⟨xt,xf,rfl,_⟩<;>rfl
 have xe:BU [.sn,a]=L:=by rw[DJ];simp[(Cr e.ow).2]
 rw[SO.1,(λ_ _=>B:∀(b:G)(W:F->G->R),bl (.p b.next 0) (b.V (.I (Bq (F.I (.S (AQ.c c)))) (F.I (.S (AQ.c c))))) W=W (.p b.next 0) (b.V (.I 2 (AQ.c c))))];simp only[↓Q,↓QD,↓H (NT 1 _),xk,v,x];rw[H r,H xg];simp only[QY,(ET B xe:AX 2 (d.V (.I 2 [.sn,.sn])) [.p d.next 0,.S [.sn,a]]=A (AC,d.V (.I 2 [.sn,a])))];rw[g,SO.2.2.1];simp only[QY,H (Ay e.hI 0),SO.2.1, *]
def pE(d:C Ab)(y:Cl d):∃R S:K,AY 33 [Z Ab.c d] (.AB [.n R,.n S,.n (D5 d)]):=by
 have xg:=y.1;have J:=ga d y;have w:=DW .n (D5 d) 0;by_cases v:D5 d=0
 .have xb:∀(c:D)(g:Ab),d[c]? =A g->∀(o:G)(f e:K),0<=f->f<=c*1000000->0<=e->e<=c*1000000000000->∃t j,jj W9 33 7 [.n f,.n c,Z Ab.c d,.n e] o=jj W9 33 3 [.n c,Z Ab.c d,.n t,.n j] o/\0<=t/\t<=(c+1)*1000000/\0<=j/\j<=(c+1)*1000000000000:=by
   intro c g q o f e xd xe V xf
   have M:=Ss y q
   have x:=(AdN.1 q).1
   have xh:=M.1
   let⟨j,k,m,p⟩:=Dh (h:=g.Av.l) (f:=λu e o=>jj W9 33 4 [.n u,.n c,Z Ab.c d,.n (f+g.Av.l),.n e] o) (g:=λu j k=>k=o/\0<=j/\j<=c*1000000000000+u*1000000)
    (λu e k N p=>by
     obtain⟨rfl,T,U⟩:=p;let⟨z,P⟩:=Bb N
     have xi:=(M.2.2.2.2.2 z (AdU P)).1;have r:=Cm N;have E:=F2 (a:=e) (b:=z.A3.l) (by omega) (by omega);refine⟨e+z.A3.l,k,?_,B,by omega,by omega⟩;show jj W9 33 4 _ _=jj W9 33 4 _ _;rw[Mj.2.2.2.2.2.2.1];simp only[QY,H (CB q),Mj.2.2.2.2.2.2.2.1,H (Qe P),Mj.2.2.2.2.2.2.2.2,H (Bh (a:=u) (by omega)), *])
    (b:=e) (a:=o) ⟨B,V,by omega⟩
   obtain⟨rfl,T,U⟩:=p
   have m:jj W9 33 4 [.n 0,.n c,Z Ab.c d,.n (f+g.Av.l),.n e] k=jj W9 33 4 [.n g.Av.l,.n c,Z Ab.c d,.n (f+g.Av.l),.n j] k:=m
   have r:=CA g.Av.l
   have E:=F2 (a:=f) (b:=g.Av.l) (by omega) (by omega)
   refine⟨f+g.Av.l,j,?_,by omega,by omega,by omega,by omega⟩
   rw[Mj.2.2.2.2.1]
   simp only[QY,CB q,E]
   rw[m,Mj.2.2.2.2.2.2.1]
   simp only[↓Q,↓QC,↓QD,↓H (CB q),r,↓reduceIte]
  let⟨⟨f,e⟩,k,m,p⟩:=Dh (h:=d.l) (f:=λc l o=>jj W9 33 2 [Z Ab.c d,.n (c:K),.n l.1,.n l.2] o) (g:=λc l k=>k=G.Aq/\0<=l.1/\l.1<=(c:K)*1000000/\0<=l.2/\l.2<=(c:K)*1000000000000)
   (λc l k x p=>by
    obtain⟨rfl,W,X,Y,xa⟩:=p;let⟨g,q⟩:=Bb x
    let⟨t,j,m,xc⟩:=xb c g q G.Aq l.1 l.2 W X Y xa
    have r:=Cm x;refine⟨(t,j),G.Aq,?_,B,xc⟩;show jj W9 33 2 _ _=jj W9 33 2 _ _;rw[Mj.2.2.2.1];simp only[↓Q,↓QC,r,↓reduceIte,m,Mj.2.2.2.2.2.1,↓H (Bh (a:=c) (by omega))])
   (b:=(0,0)) (a:=G.Aq) ⟨B,by omega,by omega,by omega,by omega⟩
  obtain⟨rfl,_⟩:=p
  have m:jj W9 33 2 [Z Ab.c d,.n 0,.n 0,.n 0] G.Aq=jj W9 33 2 [Z Ab.c d,.n d.l,.n f,.n e] G.Aq:=m
  have r:=CA d.l
  rw[A0 v]at w
  refine⟨f,e,Bu B B B ⟨G.Aq,?_⟩⟩
  rw[Mj.1]
  simp only[QY,J.H B,w,QB,Mj.2.1,m]
  rw[Mj.2.2.2.1]
  simp only[↓Q,↓QC,r,↓reduceIte,Mj.2.2.1]
  rw[v]
 .rw[A2 v]at w;refine⟨0,0,Bu B B B ⟨G.Aq,?_⟩⟩;rw[Mj.1];simp only[QY,J.H B,QB, *]
def hT{i:Type}{d:D}{e:D->i->G->R}{f:D->i->G->Prop}{g:R->Prop}(m:∀a c b,a<d->f a c b->(∃l j,e a c b=e (a+1) l j/\f (a+1) l j)\/g (e a c b))(p:∀c b,f d c b->g (e d c b)):∀h a c b,d-a=h->a<=d->f a c b->g (e a c b)
 |0,a,c,b,s,r,k=>by
  have:a=d:=by omega
  grind
 |h+1,a,c,b,s,r,k=>by
  rcases m a c b (by omega) k with⟨t,q,o,n⟩|u;.rw[o];exact hT m p h (a+1) t q (by omega) (by omega) n
  omega
def MU{h:Type}{d:D->h->G->R}{e:D->h->G->Prop}{g:R->Prop}(m:∀c b a,c<f->e c b a->(∃j i,d c b a=d (c+1) j i/\e (c+1) j i)\/g (d c b a))(k:∀b a,e f b a->g (d f b a)){b:h}{a:G}(l:e 0 b a):g (d 0 b a):=hT m k f 0 b a (by omega) (by omega) l
def Au.IZ(a:Au):Prop:=a.A3.l<2000000/\a.A8.l<2000000
def Ab.IZ(a:Ab):Prop:=a.Av.l<2000000/\a.A_.l<2000000/\a.Bk.l<2000000/\a.A8.l<2000000/\(-9223372036854775808<=a.An/\a.An<=9223372036854775807)/\∀b∈a.Av,b.IZ
def IZ(a:C Ab):Prop:=a.l<2000000/\∀b∈a,b.IZ
def dO{b:C _}(c:IZ b){a:Ab}(e:b[d]? =A a):a.IZ:=c.2 a P
def Yr(a:Au):Prop:=a.A8.l<=40/\a.A3.l<=16
def V2(a:Ab):Prop:=a.Av.l<=404/\a.A_.l<=16/\a.Bk.l<=16/\a.A8.l<=40/\∀b∈a.Av,Yr b
def kX(d:C Ab)(e:R):Prop:=∃(a:Ah)(c:G),e=A (.b a,c)/\(a=L->∀b∈d,V2 b)
def uJ(c:C Ab){e:D}{d:Ab}(y:c[e]? =A d)(w:IZ c)(g:K)(o:T)(a:G)(x:a.M o=A (.I 5 (Ab.c d))):(jj W9 31 7 [.p o 0,.n e,Z Ab.c c,.n g] a=jj W9 31 3 [.n e,Z Ab.c c,.n g] a/\∀f∈d.Av,Yr f)\/jj W9 31 7 [.p o 0,.n e,Z Ab.c c,.n g] a=A (.b Aa,a):=by
 have l:=(dO w y).1;have j:=Ay x 2;rw[GH.2.2.2.2.2.2.1];exact(MU (f:=d.Av.l) (d:=λh _ a=>jj _ _ 4 [.p o 0,.n h,.n e,Z Ab.c c,.n g] a) (e:=λh _ k=>k=a/\∀f∈d.Av.t h,Yr f)
  (g:=λu=>(u=jj W9 31 3 [.n e,Z Ab.c c,.n g] a/\∀f∈d.Av,Yr f)\/u=A (.b Aa,a))
  (λh _ k t b=>by
   obtain⟨rfl,b⟩:=b;let⟨v,m⟩:=Bb t
   have p:=Cm t;by_cases q:(40:K)<v.A8.l;.refine .j (.j ?_);rw[GH.2.2.2.2.2.2.2.1];simp only[Q,QT,QD,H j,GH.2.2.2.2.2.2.2.2.1,H (Qe m), *]
   .by_cases r:(16:K)<v.A3.l;.refine .j (.j ?_);rw[GH.2.2.2.2.2.2.2.1];simp only[Q,QT,AdM,QD,H j,p,GH.2.2.2.2.2.2.2.2.1,H (Qe m),q,r]
    .refine .i ⟨(),k,?_,B,?_⟩;.rw[GH.2.2.2.2.2.2.2.1];simp only[Q,QT,AdM,QD,H j,p,GH.2.2.2.2.2.2.2.2.1,H (Qe m),q,r,GH.2.2.2.2.2.2.2.2.2,H (Bh (a:=h) (by omega))]
     .intro f l;rw[<-FL m,Aej,AeW]at l;rcases l with l|rfl;.grind
      .exact⟨by omega,by omega⟩)
  (λ_ k b=>by obtain⟨rfl,b⟩:=b;rw[Gz]at b;refine .i ⟨?_,b⟩;rw[GH.2.2.2.2.2.2.2.1];simp only[Q,QT,AdM,H j,(CA d.Av.l)])
  (b:=()) ⟨B,P⟩)
def wK(f:C Ab)(E:IZ f)(e:G):kX f (jj W9 31 9 [Z Ab.c f] e):=by
 have xa:=E.1;rw[GH.2.1];refine MU (f:=f.l) (d:=λl d e=>jj W9 31 2 [Z Ab.c f,.n l,.n d] e) (e:=λl d _=>0<=d/\d<=404/\∀w∈f.t l,V2 w) ?_ ?_ ⟨by omega,by omega,λw Y=>by grind⟩
 .intro l d e R u;let⟨c,j⟩:=Bb R
  have m:=Cm R;have xb:=(dO E j).1;have p:=F2 (a:=d) (b:=c.Av.l) (by omega) (by omega);have xc:∀(e:G) q,bl (.p e.next 0) (e.V (.I 5 [(.s []),(.n 0),.sn,.sn,.sn])) q=q (.p e.next 0) (e.V (.I 5 [(.s []),(.n 0),.sn,.sn,.sn])):=λ_ _=>B;have g:=Ew .n c.A8.l 40;have h:=Ew .n c.A_.l 16;have k:=Ew .n c.Bk.l 16;have r:=Ew .n (d+c.Av.l) 404;have s:=Ew .n f.l 10;have v:=Ew .n (d+c.Av.l) 0;have W:jj W9 31 2 [Z Ab.c f,.n l,.n d] e=jj W9 31 7 [.p e.next 0,.n l,Z Ab.c f,.n (d+c.Av.l)] (e.V (.I 5 (Ab.c c)))/\c.A8.l<=40/\c.A_.l<=16/\c.Bk.l<=16/\d+c.Av.l<=404\/jj W9 31 2 [Z Ab.c f,.n l,.n d] e=A (.b Aa,e.V (.I 5 (Ab.c c))):=by
   rw[GH.2.2.2.1];by_cases o:(40:K)<c.A8.l;.rw[A0 o]at g;right;simp only[Q,QT,m,GH.2.2.2.2.1,H (CB j),QD,H p,H g]
   by_cases t:(16:K)<c.A_.l;.rw[A2 o]at g;rw[A0 t]at h;right;simp only[Q,QT,m,GH.2.2.2.2.1,H (CB j),QD,H p,H g,H h]
   by_cases x:(16:K)<c.Bk.l;.rw[A2 o]at g;rw[A2 t]at h;rw[A0 x]at k;right;simp only[Q,QT,m,GH.2.2.2.2.1,H (CB j),QD,H p,H g,H h,H k]
   by_cases M:404<d+c.Av.l;.rw[A2 o]at g;rw[A2 t]at h;rw[A2 x]at k;rw[A0 M]at r;right;simp only[Q,QT,m,GH.2.2.2.2.1,H (CB j),QD,H p,H g,H h,H k,H r]
   rw[A2 o]at g;rw[A2 t]at h;rw[A2 x]at k;rw[A2 M]at r;by_cases y:(10:K)<f.l
   .by_cases N:0<d+c.Av.l;.rw[A0 y]at s;rw[A0 N]at v;right;simp only[Q,QT,m,GH.2.2.2.2.1,H (CB j),QD,H p,H g,H h,H k,H r,H s,H v]
    .rw[A0 y]at s;rw[A2 N]at v;left;refine⟨?_,by omega,by omega,by omega,by omega⟩;simp only[Q,QT,m,GH.2.2.2.2.1,H (CB j),QD,H p,H g,H h,H k,H r,H s,H v]
   .rw[A2 y]at s;left;refine⟨?_,by omega,by omega,by omega,by omega⟩;simp only[Q,QT,m,GH.2.2.2.2.1,H (CB j),QD,H p,H g,H h,H k,H r,H s]
  rcases W with⟨q,S,T,U,V⟩|q
  .rcases uJ f j E (d+c.Av.l) e.next (e.V (.I 5 (Ab.c c))) (HM _ _)with⟨J,X⟩|J
   .refine .i ⟨d+c.Av.l,e.V (.I 5 (Ab.c c)),?_,by omega,V,?_⟩;.rw[q,J,GH.2.2.2.2.2.1];simp only[Q,H (Bh (a:=l) (by omega))]
    .intro w z;rw[<-FL j,Aej,AeW]at z;rcases z with z|rfl;.grind
     .exact⟨by omega,T,U,S,X⟩
   .exact .j ⟨Aa,_,q.t J,P⟩
  .exact .j ⟨Aa,_,q,P⟩
 .intro d e u;have u:=u.2.2;rw[Gz]at u;rw[GH.2.2.2.1];by_cases o:d<=250<;>by_cases t:400<d<;>simp only[Q,QT,AdM,(CA f.l),GH.2.2.1,o]<;>exact⟨_,_,B,P⟩
def ps(a:C Ab)(i:IZ a):∃b:Ah,AY 31 [Z Ab.c a] (.b b)/\(b=L->a.l<=63/\∀h∈a,V2 h):=by
 let⟨b,g,f,j⟩:=wK a i G.Aq
 by_cases d:(10:K)<a.l
 .by_cases e:(a.l:K)<=60;.exact⟨Aa,Bu B B B ⟨G.Aq,by rw[GH.1];simp only[↓Q,↓QT, *]⟩,P⟩
  .by_cases c:(63:K)<a.l;.exact⟨Aa,Bu B B B ⟨G.Aq,by rw[GH.1];simp only[↓Q,↓QT,AdM,d,e,c]⟩,P⟩
   .exact⟨b,Bu B B B ⟨g,by rw[GH.1];simp only[↓Q,↓QT,AdM,d,e,c,f]⟩,P⟩
 .have c:¬(63:K)<a.l:=by omega
  exact⟨b,Bu B B B ⟨g,by rw[GH.1];simp only[↓Q,↓QT,AdM,d,c,f]⟩,P⟩
def cJ(a:AQ):Prop:=a.l.l<=5/\a.BT.l<=5/\∀b∈a.l,b.l<=43
def pu(a:AQ)(z:a.Cl):∃c:Ah,AY 32 [.S (AQ.c a)] (.b c)/\(c=L->cJ a):=by
 have V:=z.2.1;have t:(G.Aq.V (.I 2 (AQ.c a))).M .h=A (.I 2 (AQ.c a)):=B;have m:G.Aq.next=.h:=B;generalize l:G.Aq.V (.I 2 (AQ.c a))=d at t;have o:∀(b:G)(r:F->G->R),bl (.p b.next 0) (b.V (.I (Bq (F.I (.S (AQ.c a)))) (F.I (.S (AQ.c a))))) r=r (.p b.next 0) (b.V (.I 2 (AQ.c a))):=λ_ _=>B;by_cases J:(5:K)<a.l.l;.exact⟨Aa,Bu B B B ⟨d,by rw[J2.1,o,l,m];simp only[QY, *]⟩,P⟩
 by_cases M:(5:K)<a.BT.l;.exact⟨Aa,Bu B B B ⟨d,by rw[J2.1,o,l,m];simp only[QY, *]⟩,P⟩
 let⟨c,p,y⟩:=(MU (f:=a.l.l) (d:=λe _ b=>jj W9 32 2 [.p .h 0,.n e] b) (e:=λe _ b=>b=d/\∀f∈a.l.t e,f.l<=43)
  (g:=λE=>∃c:Ah,E=A (.b c,d)/\(c=L->∀f∈a.l,f.l<=43))
  (λe _ b q g=>by
   obtain⟨rfl,g⟩:=g;let⟨k,j⟩:=Bb q
   have u:=Cm q;have T:k.l<=43->∀f∈a.l.t (e+1),f.l<=43:=λx f w=>by rw[<-FL j,Aej,AeW]at w;grind
   show(∃_ U,jj W9 32 2 _ _=jj W9 32 2 _ _/\_)\/(∃c:Ah,jj W9 32 2 _ _=_/\_);by_cases N:(12:K)<k.l
   .by_cases S:(k.l:K)<=40;.refine .j ⟨Aa,?_,P⟩;rw[J2.2.2.2.1];simp only[QY,J2.2.2.2.2.1,H (I9 j),H (Tb _ _), *]
    .by_cases v:(43:K)<k.l;.refine .j ⟨Aa,?_,P⟩;rw[J2.2.2.2.1];simp only[QY,J2.2.2.2.2.1,H (I9 j),H (Tb _ _), *]
     .refine .i ⟨(),b,?_,B,P⟩;rw[J2.2.2.2.1];simp only[QY,J2.2.2.2.2.1,H (I9 j),H (Tb _ _),J2.2.2.2.2.2,H (Bh (a:=e) (by omega)), *]
   .have v:¬(43:K)<k.l:=by omega
    refine .i ⟨(),b,?_,B,P⟩;rw[J2.2.2.2.1];simp only[QY,J2.2.2.2.2.1,H (I9 j),H (Tb _ _),J2.2.2.2.2.2,H (Bh (a:=e) (by omega)), *])
  (λ_ b g=>by obtain⟨rfl,g⟩:=g;rw[Gz]at g;have u:=CA a.l.l;refine⟨L,?_,P⟩;show jj W9 32 2 _ _=_;rw[J2.2.2.2.1];simp only[QY,J2.2.2.1, *])
  (b:=()) (a:=d) ⟨B,λf x=>by grind⟩)
 have p:jj W9 32 2 [.p .h 0,.n 0] d=A (.b c,d):=p;exact⟨c,Bu B B B ⟨d,by rw[J2.1,o,l,m];simp only[QY,J2.2.1, *]⟩,λb=>⟨by omega,by omega,y b⟩⟩
def of{b:C _}(e:IZ b)(d:b.l<=63/\∀a∈b,V2 a):Cl b:=by
 refine⟨by omega,λa c=> ?_⟩;let⟨i,_,_,_,h⟩:=d.2 a c
 refine⟨by omega,by omega,by omega,by omega,(e.2 a c).2.2.2.2.1,λg f=> ?_⟩;let⟨j,k⟩:=h g f
 exact⟨by omega,by omega⟩
def AaQ(a:C Ab)(c:AQ):Prop:=Cl a/\(a.l<=63/\∀b∈a,V2 b)/\cJ c
def g4(b:C Ab)(a:AQ)(i:IZ b)(q:a.Cl):∃l:Ah,AY 7 [Z Ab.c b,.S (AQ.c a)] (.b l)/\(l=L->AaQ b a):=by
 let⟨r,d,g⟩:=ps b i
 let⟨s,k,p⟩:=pu a q
 have v:∀(c:G)(j:F->G->R),bl (.p c.next 0) (c.V (.I (Bq (F.I (.S (AQ.c a)))) (F.I (.S (AQ.c a))))) j=j (.p c.next 0) (c.V (.I 2 (AQ.c a))):=λ_ _=>B;cases r
 .exact⟨Aa,Bu B B B ⟨G.Aq.V (.I 2 (AQ.c a)),by rw[Xx.1];simp only[QY,d.H B,QB]⟩,P⟩
 cases s
 .exact⟨Aa,Bu B B B ⟨G.Aq.V (.I 2 (AQ.c a)),by rw[Xx.1];simp only[QY,d.H B,k.H B,QB]⟩,P⟩
 have h:=of i (g B);let⟨e,u,o⟩:=pE b h
 have f:=DW .n (D5 b) 0;have n:=Pa .n e 70;generalize Ao (D5 b=0)=m at f;generalize Ao (e<=70)=t at n;refine⟨!m||t,Bu B B B ⟨G.Aq.V (.I 2 (AQ.c a)),?_⟩,λ_=>⟨h,g B,p B⟩⟩;rw[Xx.1];cases m<;>simp only[Ad8,Aet]at f<;>simp only[QY,d.H B,k.H B,QB,Xx.2,o.H B, *]
def ad(h:Ah)(j:C K)(xb:j.l<1000000):AY 37 [.b h,Z Be j] (.S (AQ.c ⟨[j],[h]⟩)):=by
 let⟨b,a,xd,o,s,y⟩:=Tt (f:=Be) (w:=1) (c:=[]) (a:=j) (j:=8) (λ_=>B) (λ_=>B) (Rw (G.Aq.V (.I 2 [.sn,.sn])) Be 1) (DG (by grind))
 have o:Aw a b Be 1 j:=o;have q:Lv ((G.Aq.V (.I 2 [.sn,.sn])).V (.I 0 [])) .h:=(E9 G.Aq _).V _;have p:As (.Z (G.Aq.V (.I 2 [.sn,.sn])).next 0 0 1 1) .h:=EN (by intro N;cases N);have W:a.M .h=A (.I 2 [.sn,.sn]):=s.M q p;have xf:=s.lv q p;have xk:=y _ q p;have T:=VK (w:=1) a.next (show b.I.l=1 by rw[(Cr o).1];rfl);rw[(Cr o).1]at T;have xi:Dq 1 1 (a.V (.I 1 [b])).next [.b h]=A (.I 1 [.b h],.Z (a.V (.I 1 [b])).next 0 1 2 1):=VK _ B
 have r:Cb [.sn,.sn] [(0,1),(1,1)] [.Z a.next 0 1 2 1,.Z (a.V (.I 1 [b])).next 0 1 2 1]=A (.S [.Z a.next 0 1 2 1,.Z (a.V (.I 1 [b])).next 0 1 2 1]):=B;generalize S:(a.V (.I 1 [b])).V (.I 1 [.b h])=k;have v:AH a k:=by rw[<-S];exact(AH.V _ _).AI (AH.V _ _)
 have I:k.M .h=A (.I 2 [.sn,.sn]):=by grind
 have X:k.M a.next=A (.I 1 [b]):=by grind
 have Y:k.M (a.V (.I 1 [b])).next=A (.I 1 [.b h]):=by grind
 generalize t:F.Z a.next 0 1 2 1=c at r;generalize u:F.Z (a.V (.I 1 [b])).next 0 1 2 1=e at r
 have x:BU [c,e]=L:=by rw[<-t,<-u];rfl
 have U:AX 2 k [.p .h 0,.S [c,e]]=A (AC,k.set .h (.I 2 [c,e])):=by show Aj (Aj (AW (Bq [c,e]) 2) (BU [c,e]) Aa) (match k.Ep .h 0 2 [c,e]with|some R=>A (AC,R)|none=>O) O=_;rw[Ki (by rw[I];rfl),Af (by omega),Af B,x];rfl
 generalize m:k.set .h (.I 2 [c,e])=i at U;have xe:A9 2 i [.p .h 0]=A (.S [c,e]):=by rw[F5,<-m,D1 (d:=2) (c:=[c,e]) (by rw[AN,Af B]),Af (by omega),Af B];rfl
 have xj:i.AL .h 0 2=A [c,e]:=by rw[<-m,D1 (d:=2) (c:=[c,e]) (by rw[AN,Af B]),Af (by omega),Af B]
 have J:i.M a.next=A (.I 1 [b]):=by rw[<-m,AN,Ad P];grind
 have M:i.M (a.V (.I 1 [b])).next=A (.I 1 [.b h]):=by rw[<-m,AN,Ad P];grind
 have z:Fz 3 i c (Z Cv [j]):=by rw[<-t];exact Fz.M0 (f:=M9) (g:=Cv) (b:=[b]) (q:=[j]) (d:=1) (λ_=>B) (λ_=>B) (by rw[J];rfl) (.cons (Cw.cons (Fz.Cs (λ_=>B) (λ_=>B) ((o.ext v).Ar λxh xc xa=>⟨by rw[<-m,AN,Ad (λV=>by grind)],by grind⟩:Aw i b Be 1 j):Fz 2 i b (Z Be j)) (Cw.nil _ _)) .nil)
 have E:Fz 2 i e (Z CN [h]):=by rw[<-u];exact Fz.M0 (f:=CN) (g:=CN) (b:=[h]) (q:=[h]) (d:=1) (λ_=>B) (λ_=>B) (by rw[M];rfl) (.cons (Cw.cons (Fz.im B) (Cw.nil _ _)) .nil)
 refine Fz.Oc B B (f:=.S [c,e]) (d:=i) (c:=4) ?_ (Fz.S (Cw.cons z (Cw.cons (E.up (by omega)) (Cw.nil _ _)))) (by omega);have xg:G.Aq.next=.h:=B;rw[sX];simp only[↓Q,↓H (NT 1 _)];grind
def M1{b:G}{c:T}{f:C F}(e:b.M c=A (.I 2 f))(a:N):AX 2 b [.p c 0,.S (N.c a)]=A (AC,b.set c (.I 2 (N.c a))):=by show Aj (Aj (AW (Bq (N.c a)) 2) (BU (N.c a)) Aa) (match b.Ep c 0 2 (N.c a)with|some d=>A (AC,d)|none=>O) O=_;rw[Ki (by rw[e];rfl),Af (by omega),Af B];rfl
def tg(c:G)(b:T)(a:N):A9 2 (c.set b (.I 2 (N.c a))) [.p b 0]=A (.S (N.c a)):=by rw[F5,D1 (c:=N.c a) (d:=2) (by rw[AN,Af B]),Af (by omega),Af B];rfl
def QV:
 (∀{h:Type}(k:G)(i:T)(m:C F)(b:C F->Ae h),((k.set i (.I 2 m)).AL i 0 2).b b=b m)/\
 (∀{h:Type}(k:G)(i:T)(e:N)(b:F->Ae h),(A9 2 (k.set i (.I 2 (N.c e))) [.p i 0]).b b=b (.S (N.c e)))/\
 (∀(o p:K),F.S [.i .u8 o,.n p]=F.S (N.c ⟨o,p⟩))/\
 (∀{h:Type}(a:G)(c:C F)(d:BV)(e:N)(b:F×G->Ae h),(AX 2 ((a.V (.I 2 c)).V d) [.p a.next 0,.S (N.c e)]).b b=b (AC,((a.V (.I 2 c)).V d).set a.next (.I 2 (N.c e))))/\
 (∀{h:Type}(a:G)(c:C F)(d f:BV)(e:N)(b:F×G->Ae h),(AX 2 (((a.V (.I 2 c)).V d).V f) [.p a.next 0,.S (N.c e)]).b b=b (AC,(((a.V (.I 2 c)).V d).V f).set a.next (.I 2 (N.c e))))/\
 (∀{h:Type}(a:G)(c:C F)(d f j:BV)(e:N)(b:F×G->Ae h),(AX 2 ((((a.V (.I 2 c)).V d).V f).V j) [.p a.next 0,.S (N.c e)]).b b=b (AC,((((a.V (.I 2 c)).V d).V f).V j).set a.next (.I 2 (N.c e))))/\
 (∀(a:G)(g:D)(c:C F)(d f:BV),A9 g (((a.V (.I g c)).V d).V f) [.p a.next 0]=A (.S c))/\
 (∀(a:G)(g:D)(c:C F)(d f j:BV),A9 g ((((a.V (.I g c)).V d).V f).V j) [.p a.next 0]=A (.S c)):=
 ⟨λk i m b=>H (by rw[D1 (c:=m) (d:=2) (by rw[AN,Af B]),Af (by omega),Af B]) b,
  λk i e b=>H (tg k i e) b,
  λ_ _=>B,
  λa c d e b=>H (M1 (Uh a 2 c d) e) b,
  λa c d f e b=>H (M1 (Wu a 2 c d f) e) b,
  λa c d f j e b=>H (M1 (Wv a 2 c d f j) e) b,
  λa g c d f=>by rw[F5,D1 (Wu a g c d f),Af (by omega),Af B];rfl,
  λa g c d f j=>by rw[F5,D1 (Wv a g c d f j),Af (by omega),Af B];rfl⟩
def QE:(∀{c:Type}(a:F->Ae c),(Cb [(.i .u8 0),(.n 0)] [] []).b a=a (.S (N.c AO)))/\
 (∀{c:Type}(b:K)(a:F->Ae c),(Cb [(.i .u8 0),(.n 0)] [(0,1)] [.i .u8 b]).b a=a (.S (N.c ⟨b,0⟩)))/\
 (∀{c:Type}(b d:K)(a:F->Ae c),(Cb [(.i .u8 0),(.n 0)] [(0,1),(1,1)] [.i .u8 b,.n d]).b a=a (.S (N.c ⟨b,d⟩)))/\
 (∀{c:Type}(b:K)(a:F->Ae c),(Cb [(.i .u8 0),(.n 0)] [(1,1)] [.n b]).b a=a (.S (N.c ⟨0,b⟩))):=
 ⟨λ_=>B,λ_ _=>B,λ_ _ _=>B,λ_ _=>B⟩
