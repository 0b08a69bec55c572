/- Part of the proof. -/
import Derived.Sort.LotD3
import Derived.Test.YtbmnfifnenajjaaGreatMbj
set_option linter.all false
noncomputable section
open Option renaming some->A,none->O,getD->Option.g,bind->Option.b
open _root_ renaming rfl->B,List->C,Nat->D,Int->K,if_neg->Ad,if_pos->Af,Bool->Ah,cond->Aj,decide_eq_true->A0,decide_eq_false->A2,Array->Bg,absurd->BF
open Bool renaming true->L,false->Aa
open Decidable renaming decide->Ao
open Nat renaming beq->AW,ble->BX,le_refl->CK
open List renaming length->List.l,map->List.m,take->List.t,drop->List.d,flatMap->List.f
open Go.IntKind renaming i64->Go.IntKind.n
open Array renaming toList->Array.l,size->Array.z
open Eq renaming trans->Eq.t,symm->Eq.s
open Or renaming inl->Or.i,inr->Or.j
open Int renaming toNat->Int.n
namespace Go.Proofs.YtbmnfifnenajjaaGreat
open Go.Fg Go.Sort
def a1:C D:=[0,1,2,2,3,3,3,3,4,4,4,4,4,4,4,4,5,5,5,5,5,5,5,5,5,5,5,5,5,5,5,5,6,6,6,6,6,6,6,6,6,6,6,6,6,6,6,6,6,6,6,6,6,6,6,6,6,6,6,6,6,6,6,6,7,7,7,7,7,7,7,7,7,7,7,7,7,7,7,7,7,7,7,7,7,7,7,7,7,7,7,7,7,7,7,7,7,7,7,7,7,7,7,7,7,7,7,7,7,7,7,7,7,7,7,7,7,7,7,7,7,7,7,7,7,7,7,7,8,8,8,8,8,8,8,8,8,8,8,8,8,8,8,8,8,8,8,8,8,8,8,8,8,8,8,8,8,8,8,8,8,8,8,8,8,8,8,8,8,8,8,8,8,8,8,8,8,8,8,8,8,8,8,8,8,8,8,8,8,8,8,8,8,8,8,8,8,8,8,8,8,8,8,8,8,8,8,8,8,8,8,8,8,8,8,8,8,8,8,8,8,8,8,8,8,8,8,8,8,8,8,8,8,8,8,8,8,8,8,8,8,8,8,8,8,8,8,8,8,8,8,8,8,8,8,8]
def j_(b:D):Ah:=match a1[b]?with
 |some a=>BX a 8&&(BX (2^a) (2*b)||(AW b 0&&AW a 0))
 |none=>Aa
def AaG:((List.range 256).all j_)=L:=by kernel_rfl
variable{a:D}
def AaH(d:a<256):∃b,a1[a]? =A b/\b<=8/\(2^b<=2*a\/(a=0/\b=0)):=by
 have:=Aei.1 AaG a P
 unfold j_ at this
 cases c:a1[a]?with
 |none=>grind
 |some b=>rw[c]at this;simp only[AdO,AeS,Nat.ble_eq,Nat.beq_eq]at this;grind
variable{b:D}
def jT(c:a<=64):A6 .shr [.i .u64 b,.i .u64 a]=A (.i .u64 (b/2^a:D)):=by show A (F.i .u64 ((b:K).fdiv (2^(min a 64))))=_;grind
def nl(b:a<256):Ho .u8 [.i .u64 a]=A (.i .u8 a):=by show A (F.i .u8 (Iu .u8 a))=_;rw[KQ];have:IntKind.u8.wrap a=a % 256:=B;grind
variable{d:D}
def Zr{e:D}(g:d<256)(l:e<=16)(f:G):∃c,jj W9 220 1 [.n e,.i .u64 d] f=A (.n (e+c:D),f)/\c<=8/\(2^c<=2*d\/(d=0/\c=0)):=by
 let⟨c,h,i,j⟩:=AaH g
 refine⟨c,?_,i,j⟩;rw[No.2.2.2];simp only[↓H (nl g),↓H (WM h:Hq [.s [0,1,2,2,3,3,3,3,4,4,4,4,4,4,4,4,5,5,5,5,5,5,5,5,5,5,5,5,5,5,5,5,6,6,6,6,6,6,6,6,6,6,6,6,6,6,6,6,6,6,6,6,6,6,6,6,6,6,6,6,6,6,6,6,7,7,7,7,7,7,7,7,7,7,7,7,7,7,7,7,7,7,7,7,7,7,7,7,7,7,7,7,7,7,7,7,7,7,7,7,7,7,7,7,7,7,7,7,7,7,7,7,7,7,7,7,7,7,7,7,7,7,7,7,7,7,7,7,8,8,8,8,8,8,8,8,8,8,8,8,8,8,8,8,8,8,8,8,8,8,8,8,8,8,8,8,8,8,8,8,8,8,8,8,8,8,8,8,8,8,8,8,8,8,8,8,8,8,8,8,8,8,8,8,8,8,8,8,8,8,8,8,8,8,8,8,8,8,8,8,8,8,8,8,8,8,8,8,8,8,8,8,8,8,8,8,8,8,8,8,8,8,8,8,8,8,8,8,8,8,8,8,8,8,8,8,8,8,8,8,8,8,8,8,8,8,8,8,8,8,8,8,8,8,8,8],.i .u8 d]=A (.i .u8 c)),↓H (Zj (d:=.u8) (a:=c) (by omega) (by omega)),↓H (Mx (a:=e) (b:=c) (by omega))]
def p4(v:a<1000000):∃c:D,c<=24/\(2^c<=2*a\/(a=0/\c=0))/\∀g,W9 (pos 220) [.i .u64 (a:K)] g=A (.n (c:K),g):=by
 have t:∃c:D,c<=24/\(2^c<=2*a\/(a=0/\c=0))/\∃p,xx W9 220 [.i .u64 (a:K)] G.Aq=A (.n (c:K),p):=by
  have n:¬(4294967296:K)<=(a:K):=by omega
  by_cases u:65536<=a
  .have i:(65536:K)<=(a:K):=by omega
   have f:=jT (b:=a) (a:=16) (by grind);have f:A6 .shr [.i .u64 (a:K),.i .u64 16]=A (.i .u64 ((a/65536:D):K)):=f;have o:¬(256:K)<=((a/65536:D):K):=by omega
   have l:A6 .add [.n 0,.n 16]=A (.n 16):=B;let⟨e,d,k,h⟩:=Zr (e:=16) (d:=a/65536) (by omega) (by omega) G.Aq
   have d:jj W9 220 1 [.n 16,.i .u64 ((a/65536:D):K)] G.Aq=A (.n ((16+e:D):K),G.Aq):=d;refine⟨16+e,by omega,?_,G.Aq,?_⟩;.grind
   .rw[No.1];simp only[QY,No.2.1,No.2.2.1, *]
  .have i:¬(65536:K)<=(a:K):=by omega
   by_cases o:256<=a
   .have j:(256:K)<=(a:K):=by omega
    have f:=jT (b:=a) (a:=8) (by grind);have f:A6 .shr [.i .u64 (a:K),.i .u64 8]=A (.i .u64 ((a/256:D):K)):=f;have l:A6 .add [.n 0,.n 8]=A (.n 8):=B;let⟨e,d,k,h⟩:=Zr (e:=8) (d:=a/256) (by omega) (by omega) G.Aq
    have d:jj W9 220 1 [.n 8,.i .u64 ((a/256:D):K)] G.Aq=A (.n ((8+e:D):K),G.Aq):=d;refine⟨8+e,by omega,?_,G.Aq,?_⟩;.grind
    .rw[No.1];simp only[QY,No.2.1,No.2.2.1, *]
   .have j:¬(256:K)<=(a:K):=by omega
    let⟨e,d,k,h⟩:=Zr (e:=0) (d:=a) (by omega) (by omega) G.Aq
    have d:jj W9 220 1 [.n 0,.i .u64 (a:K)] G.Aq=A (.n ((0+e:D):K),G.Aq):=d;rw[Ad2]at d;refine⟨e,by omega,h,G.Aq,?_⟩;rw[No.1];simp only[↓Q,↓QT,AdM,n,No.2.1,i,No.2.2.1,j,d]
 let⟨c,q,r,s⟩:=t
 exact⟨c,q,r,λg=>(Bu B B B s).at B g⟩
def fQ(g:b<1000000):∃a:D,a<=24/\(2^a<=2*b\/(b=0/\a=0))/\∀c,W9 (pos 186) [.i .u64 b] c=A (.n a,c):=by
 let⟨a,d,e,f⟩:=p4 g
 exact⟨a,d,e,λc=>(Bu B B B ⟨G.Aq,by rw[hk.1];simp only[↓Q,hk.2,↓H (f G.Aq)]⟩:AY 186 [.i .u64 b] (.n a)).at B c⟩
def qq(o:b<400000)(i:0<b):∃d:D,1<=d/\d<=2*b/\∀c,W9 (pos 251) [.n b] c=A (.i .u64 d,c):=by
 let⟨a,j,l,m⟩:=fQ (b:=b) (by omega)
 have e:2^a<=2*b:=by grind
 have h:=Uq (d:=.n) (a:=b) (by omega) (by omega);have p:A6 .shl [.i .u64 1,.n a]=A (.i .u64 (2^a:D)):=by
  show A (F.i .u64 (IntKind.u64.wrap (1*2^(min a 64))))=_;rw[Afj (by omega)];have g:1*2^a=((2^a:D):K):=by grind
  rw[g];generalize 2^a=f at e;have:IntKind.u64.wrap f=f % 18446744073709551616:=B;grind
 exact⟨2^a,Nat.one_le_two_pow,e,λc=>(Bu B B B ⟨G.Aq,by rw[sQ];grind⟩:AY 251 [.n b] (.i .u64 (2^a:D))).at B c⟩
structure QI(c:C WE)(d:G)(e:F)(a:T)(b:G)(f:Bg WE)(h:F):Prop where
 I:SI c d e b f
 g:b.M a=A (.I 1 [h])
 lq:Lv b a
 nq:¬Lv d a
 au:As e a
 ax:∀i∈c,As i.1 a
variable{f:G}
def SI.dA{c:C _}{b:G}{e:F}{d:Bg _}(a:SI c f e b d):SI c b e b d:=⟨a.Cs,a.sub,a.ro,a.A7,a.HF,P⟩
variable{c:F}{e g:G}
def SI.Uo{b:C _}{k d:Bg WE}(i:SI b g c e k)(a:SI b e c f d):SI b g c f d:=⟨a.Cs,a.sub,a.ro,a.A7,a.HF,λh l=>by have j:=i.fr h l;have m:=a.fr h j.2;grind⟩
def SI.t1{d:C _}{a:G}{f:Bg _}(e:SI d g c a f){b:T}(h:¬As c b):Lv a b:=e.Cs.Cz h
def SI.t2{d:C _}{j:G}{m:F}{i:Bg _}(g:SI d j m e i){c:WE}(l:c∈d){a:T}(f:¬As c.1 a):Lv e a:=by
 rcases g.ro c l with⟨b,_⟩|⟨h,n,b,_,o⟩;.exact BF (by rw[b];exact Cg a) f
 .by_cases k:h=a;.grind
  .exact BF (by rw[b];exact EN k) f
def SI.ext{b:C _}{d:G}{g:F}{c:Bg _}(a:SI b f g d c)(h:AH d e):SI b f g e c where
 Cs:=a.Cs.ext h
 sub:=a.sub
 ro:=λl j=>(a.ro l j).Ar P
 A7:=a.A7
 HF:=a.HF
 fr:=λk i=>by have:=a.fr k i;grind
def SI.box{g:C _}{i c:G}{j:F}{h:Bg _}(b:SI g i j e h)(l:AH e c){a:T}{k:F}(m:c.M a=A (.I 1 [k]))(p:Lv c a)(f:¬Lv e a):QI g i j a c h k:=
 ⟨b.ext l,m,p,λo=>f (b.fr a o).2,AdS λd=>f (b.t1 d),λq n=>AdS λd=>f (b.t2 n d)⟩
def QI.Dj{b:C WE}{j h i:G}{d:F}{c:T}{l f:Bg WE}{k:F}(a:QI b j d c h l k)(e:SI b h d i f):QI b j d c i f k:=by have:=e.fr c a.lq;exact⟨a.I.Uo e,(this.1 ⟨a.au,a.ax⟩).t a.g,P,a.nq,a.au,a.ax⟩
variable{n:G}
def QI.set{k:C WE}{d:G}{p:F}{e:T}{l:Bg WE}{u:F}(a:QI k n p e d l u)(s:c.I=[c])(r:Fl c=L):∃m,AX 1 d [.p e 0,c]=A (AC,m)/\QI k n p e m l c:=by
 refine⟨_,TL a.g s r,?_⟩;have j:∀b,b≠e->(d.set e (.I 1 [c])).M b=d.M b:=λb f=>by rw[AN,Ad f]
 have t:∀b,Lv (d.set e (.I 1 [c])) b=Lv d b:=by grind
 refine⟨⟨a.I.Cs.Ar λb f i=>⟨j b (λh=>i (by rw[h];exact a.au)),by grind⟩,a.I.sub,λq o=>(a.I.ro q o).Ar λb y v f i w=>⟨by rw[j b (λh=>i (by rw[h];exact a.ax q o))];grind,by grind⟩,a.I.A7,a.I.HF,λb f=> ?_⟩,by rw[AN,Af B],by rw[t];exact a.lq,a.nq,a.au,a.ax⟩;have:=a.I.fr b f;exact⟨λx=>(j b (λh=>a.nq (by grind))).t P,by grind⟩
def qr{i:C _}{q o:G}{r:F}{d:T}{n:Bg _}{e:K}(j:QI i q r d o n (.i .u64 e)):∃s p,W9 (pos 252) [.p d 0] o=A (.i .u64 s,p)/\QI i q r d p n (.i .u64 s):=by
 have I:=j.g;obtain⟨f,u⟩:∃f,A6 .shl [.i .u64 e,.i .u64 13]=A (.i .u64 f):=⟨_,B⟩;obtain⟨a,v⟩:∃a,A6 .xor [.i .u64 e,.i .u64 f]=A (.i .u64 a):=⟨_,B⟩;let⟨E,_,k⟩:=j.set (c:=.i .u64 a) B B
 have J:=k.g;obtain⟨g,w⟩:∃g,A6 .shr [.i .u64 a,.i .u64 7]=A (.i .u64 g):=⟨_,B⟩;obtain⟨b,x⟩:∃b,A6 .xor [.i .u64 a,.i .u64 g]=A (.i .u64 b):=⟨_,B⟩;let⟨H,_,l⟩:=k.set (c:=.i .u64 b) B B
 have M:=l.g;obtain⟨h,y⟩:∃h,A6 .shl [.i .u64 b,.i .u64 17]=A (.i .u64 h):=⟨_,B⟩;obtain⟨c,z⟩:∃c,A6 .xor [.i .u64 b,.i .u64 h]=A (.i .u64 c):=⟨_,B⟩;let⟨t,_,m⟩:=l.set (c:=.i .u64 c) B B
 have N:=m.g;refine⟨c,t,AZ B B ?_,m⟩;rw[sR];simp only[QY, *]
def lg{b:K}(f:a<=1000000):∃c:D,A6 .and [.i .u64 b,.i .u64 a]=A (.i .u64 c)/\c<=a:=by
 have d:A6 .and [.i .u64 b,.i .u64 a]=A (.i .u64 (IntKind.u64.wrap (BitVec.ofInt 64 b&&&BitVec.ofInt 64 a).toNat)):=B;have e:(BitVec.ofInt 64 b&&&BitVec.ofInt 64 a).toNat<=a:=by rw[BitVec.toNat_and];refine Aem Nat.and_le_right ?_;grind
 refine⟨(BitVec.ofInt 64 b&&&BitVec.ofInt 64 a).toNat,?_,e⟩;rw[d];have:IntKind.u64.wrap (BitVec.ofInt 64 b&&&BitVec.ofInt 64 (a:K)).toNat=((BitVec.ofInt 64 b&&&BitVec.ofInt 64 a).toNat:K)% 18446744073709551616:=B;grind
def Vh(c:a<1000000000)(d:b<1000000000):A6 .mul [.n a,.n b]=A (.n (a*b:D)):=by rw[Vg _ _ (by unfold Dk;omega) (by unfold Dk;omega)];grind
def hI{y:C WE}{z:G}{v:F}{E:T}{c d g:D}(Y:c+8<=d)(xb:1<=g)(xc:g<=2*(d-c)):∀(u e:D){w:G}{f:Bg WE}{R:K},c+(d-c)/4*2+2-e<=u->c<=e->QI y z v E w f (.i .u64 R)->d<=f.z->f.z<200000->∃s r,jj W9 213 1 [.p E 0,.i .u64 g,.n (d-c:D),.n c,v,.n e] w=A (.AB [],s)/\SI y z v s r/\PermIn c d f r
 |u,e,w,f,R,xl,Z,I,xa,xn=>by
  have M:=VC (a:=d-c) (b:=4) (by omega) (by omega);have M:A6 .quo [.n (d-c:D),.n 4]=A (.n ((d-c)/4:D)):=M;have N:=Vh (a:=(d-c)/4) (b:=2) (by omega) (by omega);have N:A6 .mul [.n ((d-c)/4:D),.n 2]=A (.n ((d-c)/4*2:D)):=N;have xg:=Mx (a:=c) (b:=(d-c)/4*2) (by omega);have xh:=Bh (a:=c+(d-c)/4*2) (by omega);by_cases xf:e<=c+(d-c)/4*2+1
  .cases u with
   |zero=>omega
   |succ u=>
   have U:(e:K)<=((c+(d-c)/4*2+1:D):K):=by omega
   let⟨xd,X,xp,J⟩:=qr I
   have xq:A6 .sub [.i .u64 (g:K),.i .u64 1]=A (.i .u64 ((g-1:D):K)):=by show A (F.i .u64 (Iu .u64 (QG (g:K) 1)))=_;rw[(UM _ _:QG (g:K) 1=(g:K)-1),kE (by omega) (by omega)];grind
   let⟨h,xe,xo⟩:=lg (b:=xd) (a:=g-1) (by omega)
   have xy:=Zj (d:=.u64) (a:=(h:K)) (by omega) (by omega)
   have Q:∀(o:D),o<d-c->∃s r,jj W9 213 3 [.n (o:K),.n (e:K),.p E 0,.i .u64 (g:K),.n ((d-c:D):K),.n (c:K),v] X=A (.AB [],s)/\SI y z v s r/\PermIn c d f r:=by
    intro o xm;have xi:=Mx (a:=c) (b:=o) (by omega);let⟨xj,xk,xs,xt,xu,xv,xw,xx,S⟩:=J.I.dA.KM (d:=e) (c:=c+o) (by omega) (by omega)
    let⟨t,l,P,p,q⟩:=hI Y xb xc u (e+1) (by omega) (by omega) (J.Dj S) (by rw[size_swp];grind) (by rw[size_swp];grind)
    refine⟨t,l,?_,p,permIn_trans f _ l c d (swp_permIn f c d e (c+o) Z (by omega) (by omega) (by omega) xa) q⟩;rw[Pv.2.2.2.2];simp only[QY,Pv.2.2.2.1,H (Bh (a:=e) (by omega)), *]
   by_cases V:h>=d-c
   .have W:((d-c:D):K)<=(h:K):=by omega
    have xr:=Mu (a:=h) (b:=d-c) V (by omega);let⟨t,l,P,p,q⟩:=Q (h-(d-c)) (by omega)
    refine⟨t,l,?_,p,q⟩;rw[Pv.2.1];simp only[QY,Pv.2.2.1, *]
   .have W:¬((d-c:D):K)<=(h:K):=by omega
    let⟨t,l,P,p,q⟩:=Q h (by omega)
    refine⟨t,l,?_,p,q⟩;rw[Pv.2.1];simp only[QY,Pv.2.2.1, *]
  .have U:¬e<=((c+(d-c)/4*2+1:D):K):=by omega
   refine⟨w,f,?_,I.I,permIn_refl f c d⟩;rw[Pv.2.1];simp only[QY, *]
def pY{h:C WE}{p:G}{g:F}{f:Bg WE}(t:SI h p g e f){c:D}(E:c+8<=d)(I:d<=f.z)(Q:f.z<200000):∃o i,W9 (pos 213) [g,.n (c:K),.n (d:K),.f (pos 85) []] e=A (.AB [],o)/\SI h p g o i/\PermIn c d f i:=by
 have xa:=Mu (a:=d) (b:=c) (by omega) (by omega);have V:(8:K)<=((d-c:D):K):=by omega
 have xb:=Uq (d:=.n) (a:=((d-c:D):K)) (by omega) (by omega);let⟨U,q,P,J,s,y,S,T⟩:=box e (.I 1 [.i .u64 ((d-c:D):K)])
 let⟨xc,r⟩:=EL e (b:=1) [(.i .u64 0)] (c:=[.i .u64 ((d-c:D):K)]) P J B B
 have r:AX 1 (e.V (.I 1 [.i .u64 0])) [.p U 0,.i .u64 ((d-c:D):K)]=A (AC,q):=by rw[cw B]at r;grind
 let⟨Z,M,N,R⟩:=qq (b:=d-c) (by omega) (by omega)
 have l:=VC (a:=d-c) (b:=4) (by omega) (by omega);have l:A6 .quo [.n ((d-c:D):K),.n 4]=A (.n (((d-c)/4:D):K)):=l;have m:=Vh (a:=(d-c)/4) (b:=2) (by omega) (by omega);have m:A6 .mul [.n (((d-c)/4:D):K),.n 2]=A (.n (((d-c)/4*2:D):K)):=m;have W:=Mx (a:=c) (b:=(d-c)/4*2) (by omega);have X:=JU (a:=c+(d-c)/4*2) (by omega) (by omega);let⟨z,w,Y,u,v⟩:=hI (c:=c) (d:=d) E M N (c+(d-c)/4*2+2-(c+(d-c)/4*2-1)) (c+(d-c)/4*2-1) (CK _) (by omega) (t.box s y S T) I Q
 refine⟨z,w,AZ B B ?_,u,v⟩;rw[Pv.1];simp only[QY,H (R q), *]
variable{h:F}
def ag{l:C _}{o m:G}{g:T}{c:Bg WE}(e:QI l o h g m c (.n d))(y:d<1000)(p:a<c.z)(q:b<c.z):∃(j k r:D)(n:G),W9 (pos 261) [h,.n a,.n b,.p g 0,.f (pos 85) []] m=A (.AB [.n j,.n k],n)/\((j=a/\k=b)\/(j=b/\k=a))/\r<=d+1/\QI l o h g n c (.n r):=by
 let⟨z,I⟩:=e.I.rd q
 let⟨E,J⟩:=e.I.rd p
 let⟨w,u,s⟩:=e.I.dA.Mc q p
 rw[Kv]at u;have f:=e.Dj s;by_cases v:D6 c[b]!.2 c[a]!.2<0
 .have M:=f.g;let⟨x,_,t⟩:=f.set (c:=.n (d+1:D)) B B
  refine⟨b,a,_,_,AZ B B ?_,Om,Om,t⟩;rw[aT.1];simp only[QY,Kv,H (Bh (a:=d) (by omega)), *]
 .refine⟨a,b,d,_,AZ B B ?_,Om,by omega,f⟩;rw[aT.1];simp only[QY,Kv,aT.2, *]
def Agy{k:C WE}{l:G}{f:T}{a:Bg WE}{g:D}(p:QI k n h f l a (.n g))(Q:g<900){e:D}(u:d<a.z)(v:e<a.z)(w:b<a.z):∃(c o:D)(m:G),W9 (pos 254) [h,.n d,.n e,.n b,.p f 0,.f (pos 85) []] l=A (.n c,m)/\(c=d\/c=e\/c=b)/\o<=g+3/\QI k n h f m a (.n o):=by
 let⟨y,E,Y,N,R,I,V,q⟩:=ag p (by omega) u v
 let⟨z,xb,Z,P,S,J,W,r⟩:=ag q (by omega) (a:=E) (b:=b) (by grind) w
 let⟨xa,H,x,t,U,M,X,s⟩:=ag r (by omega) (a:=y) (b:=z) (by grind) (by grind)
 refine⟨H,x,t,AZ B B ?_,by omega,by omega,s⟩;rw[sT];simp only[QY, *]
def af{l:C _}{m:G}{f:T}{c:Bg WE}{g:D}(o:QI l n h f m c (.n g))(s:g<900)(q:1<=a)(r:a+1<c.z)(v:c.z<200000):∃(b e:D)(d:G),W9 (pos 253) [h,.n a,.p f 0,.f (pos 85) []] m=A (.n b,d)/\(a-1<=b/\b<=a+1)/\e<=g+3/\QI l n h f d c (.n e):=by
 let⟨b,e,d,w,u,t,p⟩:=Agy o s (d:=a-1) (e:=a) (b:=a+1) (by omega) (by omega) r
 refine⟨b,e,d,AZ B B ?_,by omega,t,p⟩;rw[sS];simp only[QY,H (JU (a:=a) (by omega) q),H (Bh (a:=a) (by omega)), *]
def rs{e:C _}{h a:G}{j:F}{d:T}{g:Bg _}(f:QI e h j d a g (.n b))(c:F):∃i:K,jj W9 214 1 [.p d 0,c] a=A (.AB [c,.n i],a):=by
 have m:=f.g;by_cases k:(b:K)=0;.refine⟨1,?_⟩;rw[S0.2.1];simp only[QY, *]
 .by_cases l:(b:K)=12;.refine⟨2,?_⟩;rw[S0.2.1];simp only[QY,Int.reduceEq, *]
  .refine⟨0,?_⟩;rw[S0.2.1];simp only[QY, *]
def pZ{q:C WE}{s p:G}{l:F}{g:Bg WE}(S:SI q s l p g){c:D}(xo:c+8<=d)(xp:d<=g.z)(v:g.z<200000):∃(e:D)(f:K)(r:G),W9 (pos 214) [l,.n c,.n d,.f (pos 85) []] p=A (.AB [.n e,.n f],r)/\c<=e/\e<d/\SI q s l r g:=by
 have xH:=Mu (a:=d) (b:=c) (by omega) (by omega);let⟨t,N,xb,xa,Q,Y,xd,xe⟩:=box p (.I 1 [.n 0])
 have xO:∀(I:F->G->R),bl (.p p.next 0) (p.V (.I 1 [.n 0])) I=I (.p t 0) N:=Dy p (.I 1 [.n 0]) xb xa;have J:QI q s l t N g (.n (0:D)):=S.box Q Y xd xe;have xk:A6 .quo [.n (d-c:D),.n 4]=A (.n ((d-c)/4:D)):=VC (a:=d-c) (b:=4) (by omega) (by omega);have xD:A6 .mul [.n ((d-c)/4:D),.n 1]=A (.n (((d-c)/4*1:D):K)):=Vh (a:=(d-c)/4) (b:=1) (by omega) (by omega);have xE:A6 .mul [.n (((d-c)/4:D):K),.n 2]=A (.n (((d-c)/4*2:D):K)):=Vh (a:=(d-c)/4) (b:=2) (by omega) (by omega);have xF:A6 .mul [.n (((d-c)/4:D):K),.n 3]=A (.n (((d-c)/4*3:D):K)):=Vh (a:=(d-c)/4) (b:=3) (by omega) (by omega);have xf:=Mx (a:=c) (b:=(d-c)/4*1) (by omega);have xg:=Mx (a:=c) (b:=(d-c)/4*2) (by omega);have xh:=Mx (a:=c) (b:=(d-c)/4*3) (by omega);have xj:(8:K)<=((d-c:D):K):=by omega
 have P:∀{H m n o:D}{h:G},QI q s l t h g (.n (H:K))->H<100->(c<=m/\m<d)->(c<=n/\n<d)->(c<=o/\o<d)->∃(e:D)(f:K)(r:G),jj W9 214 2 [l,.n (m:K),.n (n:K),.n (o:K),.f (pos 85) [],.p t 0] h=A (.AB [.n (e:K),.n f],r)/\c<=e/\e<d/\SI q s l r g:=by
  intro H m n o h W xr xs xt xu;let⟨e,xG,Z,xy,xq,_,M⟩:=Agy W (by omega) (d:=m) (e:=n) (b:=o) (by omega) (by omega) (by omega)
  let⟨f,xz⟩:=rs M (.n (e:K))
  refine⟨e,f,Z,?_,by omega,by omega,M.I⟩;rw[S0.2.2];grind
 by_cases xi:50<=d-c
 .have X:(50:K)<=((d-c:D):K):=by omega
  let⟨m,xI,xl,xv,xA,xL,T⟩:=af J (by omega) (a:=c+(d-c)/4*1) (by omega) (by omega) v
  let⟨n,xJ,xm,xw,xB,xM,U⟩:=af T (by omega) (a:=c+(d-c)/4*2) (by omega) (by omega) v
  let⟨o,xK,xn,xx,xC,xN,V⟩:=af U (by omega) (a:=c+(d-c)/4*3) (by omega) (by omega) v
  let⟨e,f,h,xc,w,E,u⟩:=P V (m:=m) (n:=n) (o:=o) (by omega) (by omega) (by omega) (by omega)
  refine⟨e,f,h,AZ B B ?_,w,E,u⟩;rw[S0.1];simp only[QY, *]
 .have X:¬(50:K)<=((d-c:D):K):=by omega
  let⟨e,f,h,xc,w,E,u⟩:=P J (m:=c+(d-c)/4*1) (n:=c+(d-c)/4*2) (o:=c+(d-c)/4*3) (by omega) (by omega) (by omega) (by omega)
  refine⟨e,f,h,AZ B B ?_,w,E,u⟩;rw[S0.1];simp only[QY, *]
def O0(e:C WE)(g:G)(i:F)(b c:D)(f:Bg WE)(h:R):Prop:=∃d a,h=A (.AB [],d)/\SI e g i d a/\PermIn b c f a/\SortedIn BL b c a
def O0.bR{e:C WE}{i:F}{c d:Bg WE}{h:R}(l:O0 e g i a b d h)(n:PermIn a b c d):O0 e g i a b c h:=by
 let⟨m,f,k,j,o,p⟩:=l
 exact⟨m,f,k,j,permIn_trans c d f a b n o,p⟩
def U8(N:SWO BL){t:C WE}{u:G}{h:F}:∀(I c d:D)(E:D)(n m:Ah){xf:G}{o:Bg WE},d-c<=I->SI t u h xf o->c<=d->d<=o.z->o.z<200000->E<1000->Below BL c d o->O0 t u h c d o (jj W9 185 1 [.b n,.b m,.n (c:K),h,.n (d:K),.n (E:K),.f (pos 85) []] xf)
 |I,c,d,E,n,m,xf,o,yx,xm,xh,X,yh,yf,xO=>by
  have yn:=Mu (a:=d) (b:=c) xh (by omega)
  by_cases ys:d-c<=12
  .have xJ:((d-c:D):K)<=12:=by omega
   let⟨xp,xB,Z⟩:=pW xm xh X (by omega)
   have ye:=insertionSort_holds N o c d xh X;refine⟨xp,_,?_,Z,P,P⟩;rw[IH.2.1];simp only[QY, *]
  cases I with
  |zero=>omega
  |succ I=>
  have xJ:¬((d-c:D):K)<=12:=by omega
  by_cases yt:E=0
  .have xN:(E:K)=0:=by omega
   let⟨xp,xB,Z⟩:=pX xm (c:=c) (d:=d) (by omega) X (by omega)
   have ye:=heapSort_holds N o c d xh X;refine⟨xp,_,?_,Z,P,P⟩;rw[IH.2.1];simp only[QY,yn,xJ,IH.2.2.1,xN,xB]
  have xN:¬(E:K)=0:=by omega
  have yw:DE [.b L]=A (.b Aa):=B
  have yv:DE [.b Aa]=A (.b L):=B
  have xT:∀{l:G}{f:Bg WE}{g e:D},SI t u h l f->f.z=o.z->g<1000->c<=e->e<d->Below BL c d f->O0 t u h c d f (jj W9 185 2 [.n (e:K),.n ((d-c:D):K),.n (d:K),.n (c:K),h,.n (g:K),.f (pos 85) []] l):=by
   intro l f g e w R r y z s
   let⟨T,U,q⟩:=p3 w y z (by omega) (by omega) (by omega)
   cases xi:partition BL f c d e with
   |mk k ym=>
   cases ym with
   |mk xH x6=>
   rw[xi]at U q
   simp only[]at U q
   let⟨xq,xR,xG,xZ,x1,yb,yc⟩:=round_part N (partition_holds BL) y z (by omega) s xi
   have xX:=Mu (a:=k) (b:=c) xq (by omega)
   have yp:=Mu (a:=d) (b:=k) (by omega) (by omega)
   have yq:A6 .quo [.n ((d-c:D):K),.n 8]=A (.n (((d-c)/8:D):K)):=VC (a:=d-c) (b:=8) (by omega) (by omega)
   have xM:∀{S J:D}{xg:G}{M:Bg WE},J-S<=I->SI t u h xg M->S<=J->J<=M.z->M.z<200000->Below BL S J M->∃W x,W9 (pos 185) [h,.n (S:K),.n (J:K),.n (g:K),.f (pos 85) []] xg=A (.AB [],W)/\SI t u h W x/\PermIn S J M x/\SortedIn BL S J x:=by
    intro S J xg M x7 xs x8 x9 ya xY;let⟨W,x,xQ,xb,V,xl⟩:=U8 N I S J g L L x7 xs x8 x9 ya r xY
    exact⟨W,x,AZ B B (by rw[IH.1];grind),xb,V,xl⟩
   by_cases yu:k-c<d-k
   .have x4:((k-c:D):K)<((d-k:D):K):=by omega
    let⟨W,x,xQ,xb,V,xl⟩:=xM (S:=c) (J:=k) (by omega) q xq (by omega) (by omega) xZ
    let⟨xr,xe⟩:=yb x V xl
    have yr:x.z=o.z:=by rw[V.1,xG,R]
    let⟨xz,xd,yj,xt,xE,xF⟩:=U8 N I (k+1) d g (Ao (((d-c)/8:D)<=k-c)) xH (by omega) xb (by omega) (by omega) (by omega) r xr
    let⟨xj,xk⟩:=xe xd xE xF
    refine⟨xz,xd,?_,xt,xj,xk⟩;have xx:Ao ((((d-c)/8:D):K)<=((k-c:D):K))=Ao (((d-c)/8:D)<=k-c):=by grind
    have xy:=JW .n ((k-c:D):K) (((d-c)/8:D):K);rw[xx]at xy;rw[IH.2.2.2.2.2.2.2];simp only[QY,H (Bh (a:=k) (by omega)), *]
   .have x4:¬((k-c:D):K)<((d-k:D):K):=by omega
    let⟨W,x,xQ,xb,V,xl⟩:=xM (S:=k+1) (J:=d) (by omega) q (by omega) (by omega) (by omega) x1
    let⟨xr,xe⟩:=yc x V xl
    have yr:x.z=o.z:=by rw[V.1,xG,R]
    let⟨xz,xd,yj,xt,xE,xF⟩:=U8 N I c k g (Ao (((d-c)/8:D)<=d-k)) xH (by omega) xb xq (by omega) (by omega) r xr
    let⟨xj,xk⟩:=xe xd xE xF
    refine⟨xz,xd,?_,xt,xj,xk⟩;have xx:Ao ((((d-c)/8:D):K)<=((d-k:D):K))=Ao (((d-c)/8:D)<=d-k):=by grind
    have xy:=JW .n ((d-k:D):K) (((d-c)/8:D):K);rw[xx]at xy;rw[IH.2.2.2.2.2.2.2];simp only[QY,H (Bh (a:=k) (by omega)), *]
  have xU:∀{l:G}{f:Bg WE}{g e:D},SI t u h l f->f.z=o.z->g<1000->c<=e->e<d->Below BL c d f->O0 t u h c d f (jj W9 185 3 [.b n,.b m,.n (e:K),.n ((d-c:D):K),.n (d:K),.n (c:K),h,.n (g:K),.f (pos 85) []] l):=by
   intro l f g e w R r y z s;by_cases xL:0<c
   .have xw:(0:K)<(c:K):=by omega
    have x5:=JU (a:=c) (by omega) xL;let⟨yy,yA⟩:=w.rd (a:=c-1) (by omega)
    let⟨yz,yB⟩:=w.rd (a:=e) (by omega)
    let⟨T,U,q⟩:=w.Mc (k:=c-1) (l:=e) (by omega) (by omega)
    by_cases xc:D6 f[c-1]!.2 f[e]!.2<0
    .have v:=xT q R r y z s;have:jj W9 185 3 [.b n,.b m,.n (e:K),.n ((d-c:D):K),.n (d:K),.n (c:K),h,.n (g:K),.f (pos 85) []] l=jj W9 185 2 [.n (e:K),.n ((d-c:D):K),.n (d:K),.n (c:K),h,.n (g:K),.f (pos 85) []] T:=by rw[IH.2.2.2.2.2.2.1];simp only[Q,QT,Yd,xc,ZR, *]
     grind
    .let⟨yd,xC,xa⟩:=p2 q y z (by omega) (by omega)
     cases xi:partitionEqual BL f c d e with
     |mk k x6=>
     rw[xi]at xC xa
     simp only[]at xC xa
     have yg:BL f[c-1]! f[e]! =Aa:=by rw[IK,A2 xc]
     let⟨xq,xR,xG,x0,xe⟩:=round_eq N (partitionEqual_holds BL) xL y z (by omega) s yg xi
     let⟨xg,M,yi,xs,yl,yo⟩:=U8 N I k d g n m (by omega) xa xR (by omega) (by omega) r x0
     let⟨xj,xk⟩:=xe M yl yo
     refine⟨xg,M,?_,xs,xj,xk⟩
     rw[IH.2.2.2.2.2.2.1]
     simp only[Q,QT,AdM,xw,Yd,xc,yi,ZR, *]
   .have xw:¬(0:K)<(c:K):=by omega
    have v:=xT w R r y z s;have:jj W9 185 3 [.b n,.b m,.n (e:K),.n ((d-c:D):K),.n (d:K),.n (c:K),h,.n (g:K),.f (pos 85) []] l=jj W9 185 2 [.n (e:K),.n ((d-c:D):K),.n (d:K),.n (c:K),h,.n (g:K),.f (pos 85) []] l:=by rw[IH.2.2.2.2.2.2.1];simp only[↓Q,↓QT,AdM,xw]
    rw[this];grind
  have xV:∀{l:G}{f:Bg WE}{g e:D}(Y:K),SI t u h l f->f.z=o.z->g<1000->c<=e->e<d->Below BL c d f->O0 t u h c d f (jj W9 185 4 [.n Y,.b n,.b m,.n (e:K),.n ((d-c:D):K),.n (d:K),.n (c:K),h,.n (g:K),.f (pos 85) []] l):=by
   intro l f g e Y w R r y z s;by_cases xc:n=L/\m=L/\Y=1
   .let⟨xI,xK,xo⟩:=xc
    let⟨T,U,q⟩:=p1 w (a:=c) (b:=d) (by omega) (by omega) (by omega)
    let⟨xn,x2⟩:=partialInsertionSort_holds N f c d (by omega) (by omega) s
    cases xA:(partialInsertionSort BL f c d).2 with
    |true=>rw[xA]at U;refine⟨T,_,?_,q,xn,x2 xA⟩;rw[IH.2.2.2.2.2.1,xI,xK,xo];simp only[QY, *]
    |false=>
     rw[xA]at U;have v:=xU q (by rw[xn.1];grind) r y z (s.perm (by omega) xn);have:jj W9 185 4 [.n Y,.b n,.b m,.n (e:K),.n ((d-c:D):K),.n (d:K),.n (c:K),h,.n (g:K),.f (pos 85) []] l=jj W9 185 3 [.b n,.b m,.n (e:K),.n ((d-c:D):K),.n (d:K),.n (c:K),h,.n (g:K),.f (pos 85) []] T:=by rw[IH.2.2.2.2.2.1,xI,xK,xo];simp only[QY, *]
     rw[this];exact v.bR xn
   .have v:=xU w R r y z s;have:jj W9 185 4 [.n Y,.b n,.b m,.n (e:K),.n ((d-c:D):K),.n (d:K),.n (c:K),h,.n (g:K),.f (pos 85) []] l=jj W9 185 3 [.b n,.b m,.n (e:K),.n ((d-c:D):K),.n (d:K),.n (c:K),h,.n (g:K),.f (pos 85) []] l:=by
     rw[IH.2.2.2.2.2.1]
     cases n with
     |false=>simp only[↓Q]
     |true=>
      cases m with
      |false=>simp only[↓Q]
      |true=>
       have xo:¬Y=1:=by grind
       simp only[↓Q,↓QT,AdM,xo]
    rw[this];grind
  have xW:∀{l:G}{f:Bg WE}{g:D},SI t u h l f->f.z=o.z->g<1000->Below BL c d f->O0 t u h c d f (jj W9 185 5 [.b n,.b m,.n ((d-c:D):K),.n (d:K),.n (c:K),h,.n (g:K),.f (pos 85) []] l):=by
   intro l f g w R r s;let⟨e,xD,T,U,xS,yk,q⟩:=pZ w (c:=c) (d:=d) (by omega) (by omega) (by omega)
   by_cases x3:xD=2
   .subst x3;let⟨yd,xC,xa⟩:=p0 q (b:=c) (a:=d) (by omega) (by omega) (by omega)
    have xv:=reverseRange_holds f c d xh (by omega);have xX:=JU (a:=d) (by omega) (by omega);have yp:=Mu (a:=e) (b:=c) xS (by omega);have yq:=Mu (a:=d-1) (b:=e-c) (by omega) (by omega);have v:=xV (e:=d-1-(e-c)) 1 xa (by rw[xv.1];grind) r (by omega) (by omega) (s.perm (by omega) xv);rw[IH.2.2.2.2.1];simp only[QY, *];exact v.bR xv
   .have v:=xV (e:=e) xD q R r xS yk s;have:jj W9 185 5 [.b n,.b m,.n ((d-c:D):K),.n (d:K),.n (c:K),h,.n (g:K),.f (pos 85) []] l=jj W9 185 4 [.n xD,.b n,.b m,.n (e:K),.n ((d-c:D):K),.n (d:K),.n (c:K),h,.n (g:K),.f (pos 85) []] T:=by rw[IH.2.2.2.2.1];simp only[QY, *]
    rw[this];grind
  rw[IH.2.1]
  simp only[QY,IH.2.2.1, *]
  cases xP:n with
  |true=>
   have v:=xW xm B yf xO;rw[xP]at v;have:jj W9 185 6 [.b L,.b m,.n ((d-c:D):K),.n (d:K),.n (c:K),h,.n (E:K),.f (pos 85) []] xf=jj W9 185 5 [.b L,.b m,.n ((d-c:D):K),.n (d:K),.n (c:K),h,.n (E:K),.f (pos 85) []] xf:=by rw[IH.2.2.2.1];simp only[QY, *]
   rw[this];grind
  |false=>
   let⟨xp,x5,xB,Z,xu⟩:=pY xm (c:=c) (d:=d) (by omega) X yh
   have xX:=JU (a:=E) (by omega) (by omega);have v:=xW (g:=E-1) Z xu.1 (by omega) (xO.perm X xu);rw[xP]at v;rw[IH.2.2.2.1];simp only[QY, *];exact v.bR xu
def pc(p:SWO BL){e:C WE}{h b:G}{a:Bg WE}(f:SI e h c b a)(q:a.z<200000):∃g d,W9 (pos 132) [c,.f (pos 85) []] b=A (.AB [],g)/\SI e h c g d/\PermIn 0 a.z a d/\SortedIn BL 0 a.z d:=by
 have s:=Cp f.Cs;rw[AeI]at s;have w:=Uq (d:=.n) (a:=a.z) (by omega) (by omega);let⟨l,_,_,r⟩:=fQ (b:=a.z) (by omega)
 let⟨i,o,j,m,t,u⟩:=U8 p a.z 0 a.z l L L (by omega) f (by omega) (CK _) q (by omega) (.i B)
 have j:=j;have v:W9 (pos 185) [c,.n 0,.n a.z,.n l,.f (pos 85) []] b=A (.AB [],i):=AZ B B (by rw[IH.1];grind);refine⟨i,o,AZ B B ?_,m,t,u⟩;rw[r2];simp only[QY,H (r b), *]
structure NQ{e:Type}(c:e->e->K):Prop where
 Ma:∀a b,c b a= -c a b
 zero:∀a b,c a b=0->a=b
 AI:∀a b d,c a b<0->c b d<0->c a d<0
def NQ.wW{b:Type}{c:b->b->K}(d:NQ c)(a:b):c a a=0:=by have:=d.Ma a a;omega
def bM:NQ H6 where
 Ma:=λb c=>by unfold H6;split<;>split<;>omega
 zero:=λb c a=>by
  unfold H6 at a;split at a;.omega
  .grind
 AI:=λb c f d e=>by
  unfold H6 at*;split at d;.grind
  .grind
def iB{p l m:Type}{n:l->l->K}{o:m->m->K}(f:NQ n)(k:NQ o)(c:p->l)(d:p->m)(q:∀a b,c a=c b->d a=d b->a=b):NQ λa b=>IN (n (c a) (c b)) (o (d a) (d b))where
 Ma:=λa b=>by unfold IN;have s:=f.Ma (c a) (c b);have t:=k.Ma (d a) (d b);split<;>split<;>omega
 zero:=λa b i=>by
  unfold IN at i;split at i;.omega
  .rename_i e;exact q a b (f.zero _ _ (AdS e)) (k.zero _ _ i)
 AI:=λa b u e g=>by
  unfold IN at*;split at e
  .split at g;.have:=f.AI _ _ _ e g;rw[Af (by omega)];grind
   .rename_i j;have h:=f.zero _ _ (AdS j);rw[<-h,Af (by omega)];grind
  .rename_i j;have h:=f.zero _ _ (AdS j);rw[h];split at g;.grind
   .rename_i r;rw[Ad r];exact k.AI _ _ _ e g
def Vu:NQ Lo:=iB bM bM _ Bf.Az λa b c d=>by cases a;cases b;simp_all
def uZ:NQ Ge where
 Ma:=λb=>by
  induction b with
  |nil=>intro a;cases a<;>rfl
  |cons i b j=>
   intro a
   cases a with
   |nil=>rfl
   |cons e a=>have c:=Vu.Ma i e;have:=j a;unfold Ge;split<;>split<;>omega
 zero:=λb=>by
  induction b with
  |nil=>intro a c;cases a;rfl;cases c
  |cons i b j=>
   intro a c
   cases a with
   |nil=>cases c
   |cons e a=>
    unfold Ge at c;split at c;.omega
    .rename_i g;rw[Vu.zero i e (AdS g),j a c]
 AI:=λb=>by
  induction b with
  |nil=>
   intro a h f d
   cases h with
   |nil=>cases a with
    |nil=>grind
    |cons e a=>unfold Ge at d;omega
   |cons l h=>unfold Ge;omega
  |cons i b j=>
   intro a h f d
   cases a with
   |nil=>unfold Ge at f;omega
   |cons e a=>
    cases h with
    |nil=>unfold Ge at d;omega
    |cons l h=>
     unfold Ge at f d⊢;split at f
     .split at d;.have:=Vu.AI _ _ _ f d;rw[Af (by omega)];grind
      .rename_i g;have k:=Vu.zero _ _ (AdS g);rw[<-k,Af (by omega)];grind
     .rename_i g;have k:=Vu.zero _ _ (AdS g);rw[k];split at d;.grind
      .grind
def LU:NQ D6:=iB uZ bM _ Bt.Ax λa b c d=>by cases a;cases b;simp_all
def AaF:SWO BL where
 irrefl:=λf=>by rw[IK,LU.wW];decide
 trans:=λf b c a d=>by rw[IK,AdV]at*;exact LU.AI _ _ _ a d
 ntrans:=λf b c a d=>by
  rw[IK,AfE]at*;intro e;have h:=LU.Ma b.2 c.2;by_cases g:D6 b.2 c.2=0;.rw[<-LU.zero _ _ g]at e;grind
  .exact a (LU.AI _ _ _ e (by omega))
def MS(a b:Bt):Ah:=Ao (D6 a b<=0)
def j0{c d:C _}(g:c.Pairwise λa b=>D6 a b<=0)(h:d.Pairwise λa b=>D6 a b<=0)(i:c.Perm d):c=d:=
 List.Perm.eq_of_pairwise (le:=λa b=>D6 a b<=0) (λe f _ _ j k=>LU.zero e f (by have:=LU.Ma e f;omega)) g h i
def VT(a:C Bt):C Bt:=a.mergeSort MS
def hw(b a c:Bt)(f:MS b a=L)(g:MS a c=L):MS b c=L:=by
 unfold MS at*;rw[AdV]at*;by_cases d:D6 b a=0;.rw[LU.zero _ _ d];grind
 .by_cases e:D6 a c=0;.rw[<-LU.zero _ _ e];grind
  .exact Int.le_of_lt (LU.AI b a c (by omega) (by omega))
def tn(a b:Bt):(MS a b||MS b a)=L:=by unfold MS;have:=LU.Ma a b;rw[AeS,AdV,AdV];omega
def jZ(a:C _):(VT a).Pairwise λc d=>D6 c d<=0:=(List.pairwise_mergeSort hw tn a).imp λ{e f} b=>Afg b
def Yn(a:C _):(VT a).Perm a:=List.mergeSort_perm a _
end Go.Proofs.YtbmnfifnenajjaaGreat
namespace Go.Proofs.YtbmnfifnenajjaaGreat
open Go.Fg
def Mg(a:Ai):D->D->C Bf
 |0,_=>[]
 |c+1,b=>if(a.at b).AP= -1 then[]else⟨(a.at b).Ax,(a.at b).Az⟩::Mg a c (a.at b).AP.n
def FX(b:Ai)(a:D):C Bf:=(Mg b (a+1) a).reverse
theorem SH(a:Ai)(c b:D):Mg a (c+1) b=if(a.at b).AP= -1 then[]else⟨(a.at b).Ax,(a.at b).Az⟩::Mg a c (a.at b).AP.n:=rfl
def SG(b:Ai):∀(a c:D),(Mg b a c).l<=a
 |0,_=>CK _
 |a+1,c=>by
  unfold Mg;split;.grind
  .have:=SG b a (b.at c).AP.n;grind
def hN{g:CI}{X:T->Bm}{e:G}{d:Ai}{z:Lm}(r:EB X e g.l g.es g.k g.x d z)(I:CF g.l d):∀(c b:D),b<c->∀(a:AK),d.Ac[b]? =A a->∀(i:C Bf)(n:F)(j:G),AH e j->Aw j n Bf.c 2 i->Dx e n->i.l+c<=100000->∃o k,jj W9 59 2 [.p g.x 0,.p (z.pc b) 0,n] j=jj W9 59 1 [o] k/\Aw k o Bf.c 2 (i++Mg d c b)/\AH e k/\Dx e o
 |0,b,U,_,_,_,_,_,_,_,_,_=>by omega
 |c+1,b,U,a,l,i,n,j,E,V,p,xb=>by
  have xj:=((r.ext E).BC b a l).M;by_cases t:a.AP= -1
  .refine⟨n,j,?_,?_,E,p⟩;.rw[S5.2.2.1];simp only[QY, *]
   .have:Mg d (c+1) b=[]:=by rw[SH,DK l,Af t]
    rw[this,Ad5];grind
  .let⟨v,xd,Q,Y,xh,h⟩:=(I.up b a l).resolve_left t
   have xa:Cb [(.n 0),(.n 0)] [(0,1),(1,1)] [.n a.Ax,.n a.Az]=A (.S (Bf.c ⟨a.Ax,a.Az⟩)):=B;let⟨J,u,xf,W,M,R⟩:=FJ (f:=Bf.c) (w:=2) (b:=⟨a.Ax,a.Az⟩) (o:=.S (Bf.c ⟨a.Ax,a.Az⟩)) (h:=16) (λ_=>B) B B V (DG (by omega))
   have H:AH e u:=λm q=>⟨(M.M P (p m q)).t P,M.lv P (p m q)⟩;have s:=r.ext H;have xm:=s.M;have xl:u.Ap (z.pc b) 1=A (.n v):=by rw[Ay (s.BC b a l).M];show A (F.n a.AP)=_;rw[h.AP]
   let⟨Z,xc,xk⟩:=s.Lf h.Cc
   have xg:=h.lt;let⟨o,k,xe,xi,N,S⟩:=hN r I c v (by omega) Q h.Cc (i++[⟨a.Ax,a.Az⟩]) J u H W (λm q=>R m P (p m q):Dx e J) (by grind)
   refine⟨o,k,?_,?_,N,S⟩;.rw[S5.2.2.1];simp only[QY,S5.2.2.2.1,S5.2.2.2.2, *]
   .have:Mg d (c+1) b=⟨a.Ax,a.Az⟩::Mg d c v:=by rw[SH,DK l,Ad t,h.AP,AdR]
    grind
def u7{q:Type}{c:q->C F}{a:D}(e:∀d,(c d).l=a)(S:∀d,BU (c d)=L){k:G}{b:F}{l:C q}(p:Aw k b c a l){f g:D}{d i:q}(o:l[f]? =A d)(t:l[g]? =A i):
  ∃s m,AR a [b,.n f]=A (.p (ub b) (f*a))/\AR a [b,.n g]=A (.p (ub b) (g*a))/\k.AL (ub b) (f*a) a=A (c d)/\k.AL (ub b) (g*a) a=A (c i)/\
   AX a k [.p (ub b) (f*a),.S (c i)]=A (AC,s)/\AX a s [.p (ub b) (g*a),.S (c d)]=A (AC,m)/\Aw m b c a ((l.set f i).set g d)/\(∀h,As b h->m.M h=k.M h)/\∀h,Lv m h=Lv k h:=by
 let⟨R,j⟩:=CD e p o
 let⟨w,n⟩:=CD e p t
 have I:=j.only w n.nb
 subst I
 let⟨E,v⟩:=j.set e p o (c:=i) (g:=.S (c i)) B P
 have M:g<(l.set f i).l:=by grind
 let⟨U,u⟩:=Bb M
 let⟨x,r⟩:=CD e v u
 have J:=j.only x r.nb
 subst J
 let⟨H,N⟩:=r.set e v u (c:=d) (g:=.S (c d)) B P
 have Q:=j.nb
 rw[cP Q]
 exact⟨_,_,j.ia,n.ia,j.AL e o,n.AL e t,E,H,N,λh T=>by rw[AN,Ad P,AN,Ad P],P⟩
structure Rv{e:Type}(b c:C e)(d:D):Prop where
 A7:c.l=b.l
 Cc:∀a,a<b.l->c[a]? =b[if a<d\/b.l-d<=a then b.l-1-a else a]?
def Rv.zero{b:Type}(a:C b):Rv a a 0:=⟨B,P⟩
def Rv.Dj{k:Type}{b c:C _}{a:D}(d:Rv b c a)(n:a<b.l-1-a){f g:k}(o:c[a]? =A f)(p:c[b.l-1-a]? =A g):Rv b ((c.set a g).set (b.l-1-a) f) (a+1)where
 A7:=by rw[Aed,Aed];exact d.A7
 Cc:=λe h=>by
  have i:=d.Cc a (by omega);have j:=d.Cc (b.l-1-a) (by omega);rw[Ad (by omega)]at i j;by_cases l:e=b.l-1-a;.grind
  .rw[AeJ Om];by_cases m:e=a;.grind
   .rw[AeJ Om,d.Cc e h];grind
def Rv.Sp{g:Type}{a c:C g}{b:D}(d:Rv a c b)(h:¬b<a.l-1-b)(i:b<=a.l):c=a.reverse:=by
 refine AeP λf=> ?_;by_cases e:f<a.l;.rw[d.Cc f e,List.getElem?_reverse e];grind
 .rw[Af4 (by rw[d.A7];omega),Af4 (by grind)]
def hH{g:G}{k:F}{b:C Bf}(E:b.l<1000000):∀(h a:D)(e:C Bf)(d:G),b.l-2*a<=h->2*a<=b.l+1->Rv b e a->Aw d k Bf.c 2 e->(∀c,As k c->d.M c=g.M c)->(∀c,Lv d c=Lv g c)->∃n,jj W9 118 1 [k,.n a,.n (b.l-1-a)] d=A (.AB [],n)/\Aw n k Bf.c 2 b.reverse/\(∀c,As k c->n.M c=g.M c)/\∀c,Lv n c=Lv g c
 |h,a,e,d,xb,xa,m,M,v,I=>by
  by_cases p:a<b.l-1-a
  .cases h with
   |zero=>omega
   |succ h=>
   have o:(a:K)<(b.l:K)-1-a:=by omega
   have u:(b.l:K)-1-a=((b.l-1-a:D):K):=by omega
   let⟨xe,q⟩:=Bb (b:=e) (a:=a) (by rw[m.A7];omega)
   let⟨xf,r⟩:=Bb (b:=e) (a:=b.l-1-a) (by rw[m.A7];omega)
   let⟨Z,y,S,T,U,V,W,X,N,Y,xd⟩:=u7 (c:=Bf.c) (a:=2) (λ_=>B) (λ_=>B) M q r
   have s:=JU (a:=b.l-1-a) (by omega) (by omega)
   have t:((b.l-1-a-1:D):K)=(b.l:K)-1-((a+1:D):K):=by omega
   rw[t]at s
   let⟨z,xc,R,x,J⟩:=hH (g:=g) E h (a+1) _ y (by omega) (by omega) (m.Dj p q r) N P P
   refine⟨z,?_,R,x,J⟩
   rw[u]at o⊢
   rw[UP.2.1]
   simp only[QY,UP.2.2.1,UP.2.2.2,H (Bh (a:=a) (by omega)), *]
  .have o:¬a<(b.l:K)-1-a:=by omega
   refine⟨d,?_,by rw[<-m.Sp p (by omega)];grind,v,I⟩;rw[UP.2.1];simp only[↓Q,↓QT,AdM,o]
def o_{d:G}{g:F}{c:C Bf}(h:Aw d g Bf.c 2 c)(k:c.l<1000000):∃f,W9 (pos 118) [g] d=A (.AB [],f)/\Aw f g Bf.c 2 c.reverse/\(∀e,As g e->f.M e=d.M e)/\∀e,Lv f e=Lv d e:=by
 have p:=Cp h;have n:=FA (a:=c.l) (b:=1) (by omega) (by omega);let⟨j,o,m,i,l⟩:=hH (g:=d) k c.l 0 c d (by omega) (by omega) (Rv.zero c) h P P
 refine⟨j,AZ B B ?_,m,i,l⟩;rw[UP.1];grind
def gi{c:CI}{r:T->Bm}{a:G}{d:Ai}{s:Lm}(g:EB r a c.l c.es c.k c.x d s)(j:CF c.l d){b:D}{k:AK}(i:d.Ac[b]? =A k):∃e h,W9 (pos 59) [.p c.x 0,.n b] a=A (e,h)/\Aw h e Bf.c 2 (FX d b)/\AH a h/\Dx a e:=by
 have F:=g.M;let⟨u,_,_⟩:=g.Lf i
 have w:=(AdN.1 i).1;have v:=j.A7;let⟨e,_,y,m,t,l⟩:=hN g j (b+1) b (by omega) k i [] .sn a (AH.refl a) (Aw.sn a) (λf _=>Cg f) (by grind)
 rw[Af2]at m;have x:=SG d (b+1) b;let⟨o,z,q,n,E⟩:=o_ m (by omega)
 refine⟨e,o,AZ B B ?_,q,λf p=>⟨(n f (l f p)).t P,by grind⟩,l⟩;rw[S5.1];simp only[QY,S5.2.1, *]
end Go.Proofs.YtbmnfifnenajjaaGreat
namespace Go.Proofs.YtbmnfifnenajjaaGreat
open Go.Fg Go.Sort
def Qr(a:AK)(b:D):N:=(((a.AG[b]?).g [])[0]?).g AO
def TT(c:C Ab)(a:AK)(b:D):Ah:=match(F4 c a).Av[b]?with
 |some d=>Ao (d.op=12)&&(Ao (0<(a.AS[b]?).g 0)&&Ao ((Qr a b).Ak=0))
 |none=>Aa
def Lh(f:C Ab)(b:Ai)(a:AK)(c e:D):C Bt:=((List.range e).filter (TT f a)).m λ(d:D)=>⟨FX b c,(d:K)⟩
def Ms(c:C Ab)(a:Ai):D->C Bt
 |0=>[]
 |b+1=>Ms c a b++(match a.Ac[b]?with|some d=>Lh c a d b (F4 c d).Av.l|none=>[])
def Mv(b:C Ab)(a:Ai):C Bt:=VT (Ms b a a.Ac.l)
def i4(e:C _)(c:Ai)(b:AK)(d a:D):Lh e c b d (a+1)=Lh e c b d a++(if TT e b a=L then[⟨FX c d,a⟩]else[]):=by unfold Lh;rw[AeX,List.filter_append,Aes];grind
def b3(e:C Ab)(c:Ai)(b:AK)(d a:D):(Lh e c b d a).l<=a:=by unfold Lh;grind
def VD{c:C Ab}(e:BD c){b:Ai}(f:CF c b):∀a,(Ms c b a).l<=a*400
 |0=>CK _
 |a+1=>by
  unfold Ms
  rw[AdY,Afe]
  refine Nat.add_le_add (VD e f a) ?_
  cases j:b.Ac[a]?with
  |none=>grind
  |some g=>
   let⟨h,i,d⟩:=f.BC a g j
   simp only[];rw[d.Ca];exact Aem (b3 c b g a _) (e.Bc h i d.hb).Av
structure WI(d:G)(e:F)(c:G)(b:C WE):Prop where
 Cs:Aw c e CG 2 b
 ro:∀a∈b,Ro c a.1 Bf.c 2 a.2.B4
 A7:∀a∈b,a.2.B4.l<1000000000
 HF:∀a∈b,∀f,¬As a.1 f->As e f
 E:AH d c
 fu:Dx d e
 fx:∀a∈b,Dx d a.1
def WI.ext{f d e:G}{g:F}{b:C _}(a:WI f g d b)(c:AH d e):WI f g e b:=
 ⟨a.Cs.ext c,λi h=>(a.ro i h).Ar P,a.A7,a.HF,a.E.AI c,a.fu,a.fx⟩
def Ro.Cz{k:Type}{b:G}{d:F}{g:k->C _}{j:D}{h:C _}(i:Ro b d g j h){a:T}(c:¬As d a):Lv b a:=by
 rcases i with⟨rfl,_⟩|⟨e,l,rfl,_,m⟩;.exact BF (Cg a) c
 .by_cases f:e=a;.grind
  .exact BF (EN f) c
def WI.add{r q:G}{o c:F}{m:C _}{e:C Bf}{g:K}{l:G}(h:WI r o q m)(t:Aw l c Bf.c 2 e)(J:AH q l)(I:Dx q c)(X:e.l<1000000)(W:m.l<1000000):∃p n,Cb [.sn,(.n 0)] [(0,1),(1,1)] [c,.n g]=A (.S (CG (c,⟨e,g⟩)))/\(∀(v:F×G->R),((Dq 1 2 l.next [.S (CG (c,⟨e,g⟩))]).b λb=>(DN 2 32 (G.V l b.1) [o,b.2]).b v)=v (p,n))/\WI r p n (m++[(c,⟨e,g⟩)]):=by
 have k:=h.ext J;have S:BU (CG (c,⟨e,g⟩))=L:=by unfold CG;rw[DJ];simp[(Cr t).2]
 let⟨p,n,T,U,Q,z⟩:=FJ (f:=CG) (w:=2) (b:=((c,⟨e,g⟩))) (o:=.S (CG (c,⟨e,g⟩))) (h:=32) (λ_=>B) S B k.Cs (DG (by omega))
 have V:∀b,¬As c b->As o b:=λb s=>AdS λM=>s (I b (h.Cs.Cz M));have H:∀a∈m++[((c,⟨e,g⟩))],Ro l a.1 Bf.c 2 a.2.B4/\(∀b,¬As a.1 b->As o b)/\a.2.B4.l<1000000000/\Dx r a.1:=λa d=>by
  rcases Aej.1 d with d|d;.exact⟨k.ro a d,h.HF a d,h.A7 a d,h.fx a d⟩
  .have:a=(c,⟨e,g⟩):=by grind
   subst this;exact⟨t.ro,V,by grind,λj i=>I j (h.E.lv i)⟩
 refine⟨p,n,?_,T,U,λa d=> ?_,P,λa d b s=> ?_,λj i=> ?_,λj i=> ?_,P⟩;.rcases t with⟨rfl,_⟩|⟨_,_,rfl,_⟩<;>rfl
 .let⟨u,N,_⟩:=H a d
  exact u.Ar P
 .let⟨u,N,_⟩:=H a d
  exact z b (u.Cz s) P
 .have:=Q j (k.E.lv i) (h.fu j i);exact⟨this.1.t (k.E.M i),P⟩
 .exact z j (k.E.lv i) (h.fu j i)
def rE{c:CI}(xD:BD c.l){xX:T->Bm}{X:G}{g:Ai}{r:Lm}(xE:EB xX X c.l c.es c.k c.x g r)(xn:CF c.l g){a:D}{e:AK}(xv:g.Ac[a]? =A e){xx:D}{d:Ab}(E:Dw c.l xx d e)(y z:F){p:C WE}{xa:F}{j:G}(xA:WI X xa j p)(x5:p.l<500000):∃S R P,jj W9 88 4 [.n d.Av.l,Z Au.c d.Av,.p (r.pc a) 0,.n a,.n 0,.n a,y,z,.p c.x 0,xa] j=jj W9 88 3 [.n a,y,z,.p c.x 0,R] P/\WI X R P S/\S.m (·.2)=p.m (·.2)++Lh c.l g e a d.Av.l:=by
 have xl:=xD.Bc xx d E.hb;have x6:=xl.Av;have x9:=xn.A7;have x7:a<g.Ac.l:=by grind
 obtain⟨⟨S,R⟩,P,xd,xB,xT⟩:=Dh (h:=d.Av.l) (f:=λb x j=>jj W9 88 4 [.n d.Av.l,Z Au.c d.Av,.p (r.pc a) 0,.n a,.n b,.n a,y,z,.p c.x 0,x.2] j)
  (g:=λb x j=>WI X x.2 j x.1/\x.1.m (·.2)=p.m (·.2)++Lh c.l g e a b)
  (λb x j xw U=>by
   obtain⟨u,xj⟩:=x;obtain⟨U,xm⟩:=U;simp only[]at U xm⊢;obtain⟨q,v⟩:=Bb xw;have x1:=xl.Ax b q v;have xI:=Cm xw;obtain⟨xW,t,xR,xP,xy,xM,ye,yg⟩:=box j (.I 4 (Au.c q));obtain⟨x0,xY⟩:=EL j (b:=4) [(.i .u8 0),(.s []),(.n 0),.sn] (c:=Au.c q) xR xP B B;have xS:A9 4 j [.pi (Au.c q)]=A (.S (Au.c q)):=B;have xF:t.Ap xW 0=A (.i .u8 q.op):=Ay xM 0;have M:=U.ext xy;have xo:=xE.ext M.E;have J:=xo.BC a e xv;have Y:=i4 c.l g e a b;have m:TT c.l e b=(Ao (q.op=12)&&(Ao (0<(e.AS[b]?).g 0)&&Ao ((Qr e b).Ak=0))):=by unfold TT;rw[E.Ca,v]
   have yf:u.l<=p.l+b:=by
    have t:(u.m (·.2)).l=u.l:=by grind
    have xN:(p.m (·.2)).l=p.l:=by grind
    have xu:=b3 c.l g e a b;have xO:=AdW List.length xm;rw[AdY]at xO;omega
   by_cases xc:q.op=12
   .rw[A0 xc,Aep]at m;obtain⟨xt,xe⟩:=Bb (b:=e.AS) (a:=b) (by rw[E.AS];grind);rw[xe,Aeg]at m;have yi:=Ay J.M 6;obtain⟨xH,V⟩:=CD (f:=Be) (w:=1) (λ_=>B) J.AS xe;have yl:t.Ap xH (b*1)=A (.n xt):=by have:=V.Ap (f:=Be) (λ_=>B) xe (b:=0) (by grind);exact this
    by_cases xr:0<xt
    .rw[A0 xr,Aep]at m;have xf:b<e.AG.l:=by rw[E.AG];grind
     obtain⟨xi,xg⟩:=Bb xf;have x8:=E.AD b q xi v xg;have ya:C7 c.l q=1:=by unfold C7;omega
     obtain⟨xb,xh⟩:=Bb (b:=xi) (a:=0) (by omega);have xK:Qr e b=xb:=by unfold Qr;rw[xg,Aeg,xh];rfl
     rw[xK]at m;have yh:=Ay J.M 5;obtain⟨xG,xk⟩:=CD (f:=EE (r.og a)) (w:=1) (λ_=>B) J.AG (F9 xf);have yj:t.Ap xG (b*1)=A (r.og a b):=by have:=xk.Ap (f:=EE (r.og a)) (λ_=>B) (F9 xf) (b:=0) (by grind);exact this
     obtain⟨xq,xp⟩:=CD (f:=N.c) (w:=2) (λ_=>B) (J.AD b xi xg).1 xh;have yb:AR 2 [r.og a b,.n 0]=A (.p xq 0):=by have:=xp.ia;simpa using this
     have yk:t.AL xq 0 2=A (N.c xb):=by have:=xp.AL (f:=N.c) (λ_=>B) xh;simpa using this
     have W:=MD xb;have x3:DE [.b L]=A (.b Aa):=B;have x2:DE [.b Aa]=A (.b L):=B;by_cases xs:xb.Ak=0
     .rw[A0 xs]at W m;rw[Af m]at Y;obtain⟨xV,xN,yc,xU,xz,xL⟩:=gi xo xn xv;have xQ:(FX g a).l<1000000:=by unfold FX;rw[AfI];have:=SG g (a+1) a;omega
      obtain⟨xZ,xu,x4,yd,xC⟩:=M.add (g:=b) xU xz xL xQ (by omega);refine⟨(u++[(xV,⟨FX g a,b⟩)],xZ),xu,?_,xC,?_⟩;.show jj W9 88 4 _ _=jj W9 88 4 _ _;rw[II.2.2.2.2.2.1];simp only[QY,II.2.2.2.2.2.2.1,H (Fa v),H V.ia,H xk.ia,W.H B,QB,II.2.2.2.2.2.2.2,H (Bh (a:=b) (by omega)), *]
      .grind
     .rw[A2 xs]at W m;rw[m,Ad (by grind),Ad5]at Y;refine⟨(u,xj),t,?_,M,by grind⟩;show jj W9 88 4 _ _=jj W9 88 4 _ _;rw[II.2.2.2.2.2.1];simp only[QY,II.2.2.2.2.2.2.1,H (Fa v),H V.ia,H xk.ia,W.H B,QB,II.2.2.2.2.2.2.2,H (Bh (a:=b) (by omega)), *]
    .rw[A2 xr,AeO]at m;rw[m,Ad (by grind),Ad5]at Y;refine⟨(u,xj),t,?_,M,by grind⟩;show jj W9 88 4 _ _=jj W9 88 4 _ _;rw[II.2.2.2.2.2.1];simp only[QY,II.2.2.2.2.2.2.1,H (Fa v),H V.ia,QB,II.2.2.2.2.2.2.2,H (Bh (a:=b) (by omega)), *]
   .rw[A2 xc,AeO]at m;rw[m,Ad (by grind),Ad5]at Y;refine⟨(u,xj),t,?_,M,by grind⟩;show jj W9 88 4 _ _=jj W9 88 4 _ _;rw[II.2.2.2.2.2.1];simp only[↓x0,↓Q,↓QT,AdM,xI,II.2.2.2.2.2.2.1,↓H (Fa v),↓H xS,↓H xY,↓H xF,xc,QB,II.2.2.2.2.2.2.2,↓H (Bh (a:=b) (by omega))])
  (b:=(p,xa)) (a:=j) ⟨xA,by show p.m _=p.m _++Lh c.l g e a 0;unfold Lh;simp⟩
 have xd:jj W9 88 4 [.n d.Av.l,Z Au.c d.Av,.p (r.pc a) 0,.n a,.n 0,.n a,y,z,.p c.x 0,xa] j=jj W9 88 4 [.n d.Av.l,Z Au.c d.Av,.p (r.pc a) 0,.n a,.n d.Av.l,.n a,y,z,.p c.x 0,R] P:=xd;have xJ:=CA d.Av.l;refine⟨S,R,P,?_,xB,xT⟩;rw[xd,II.2.2.2.2.2.1];simp only[↓Q,↓QT,AdM,xJ]
def qS{d:CI}(M:BD d.l){xi:T->Bm}{e:G}{a:Ai}{p:Lm}(y:EB xi e d.l d.es d.k d.x a p)(r:CF d.l a):∃m o g,W9 (pos 88) [.p d.x 0] e=A (m,o)/\WI e m o g/\g.m (·.2)=Mv d.l a:=by
 have xn:=y.M;have X:=Cp y.Ac;rw[Ad0]at X;have xv:=r.A7;let⟨⟨g,m⟩,xb,Q,c,S⟩:=Dh (h:=a.Ac.l) (f:=λb l e=>jj W9 88 2 [.n a.Ac.l,p.cv,.p d.x 0,.n b,l.2] e)
  (g:=λb l o=>WI e l.2 o l.1/\l.1.m (·.2)=Ms d.l a b)
  (λb l o v q=>by
   let⟨Z,xA⟩:=l
   let⟨q,V⟩:=q
   simp only[]at q V⊢;let⟨z,u⟩:=Bb v
   have xs:=Cm v;let⟨xf,xp,x⟩:=r.BC b z u
   have N:=y.ext q.E;let⟨xq,xx,xz⟩:=N.Lf u
   have xB:=N.M;have xr:o.Ap (p.pc b) 0=A (.n xf):=by rw[Ay (N.BC b z u).M];show A (F.n z.Bc)=_;rw[x.ha]
   have xw:Z.l<=b*400:=by have t:=VD M r b;grind
   let⟨U,xm,t,xe,xa,xg⟩:=rE M y r u x (.n a.Ac.l) p.cv q (by omega)
   refine⟨(U,xm),t,?_,xa,?_⟩;.show jj W9 88 2 _ _=jj W9 88 2 _ _;rw[II.2.2.1];simp only[QY,II.2.2.2.1,H (CB x.hb),II.2.2.2.2.1,H (Bh (a:=b) (by omega)), *]
   .show U.m _=Ms d.l a b++(match a.Ac[b]?with|some z=>_|none=>_);rw[u,xg,V];simp only[];rw[x.Ca])
  (b:=([],.sn)) (a:=e) ⟨⟨Aw.sn e,P,P,P,AH.refl e,λw _=>Cg w,P⟩,B⟩
 have Q:jj W9 88 2 [.n a.Ac.l,p.cv,.p d.x 0,.n 0,.sn] e=jj W9 88 2 [.n a.Ac.l,p.cv,.p d.x 0,.n a.Ac.l,m] xb:=Q;have c:WI e m _ g:=c;have S:g.m _=Ms _ a a.Ac.l:=S;have xu:g.l<200000:=by have t:=VD M r a.Ac.l;grind
 have xk:SI g _ m _ _:=⟨c.Cs,λf k=>k,c.ro,c.A7,c.HF,λxy xd=>⟨λ_=>B,xd⟩⟩;let⟨t,j,xe,J,Y,xj⟩:=pc AaF xk (by omega)
 have xt:=CA a.Ac.l;have xl:j.z=g.l:=by rw[Y.1,AfQ]
 have xh:j.l.Perm g:=by have:=Y.2.2;rw[AfQ,<-xl,Array.extract_size]at this;grind
 refine⟨m,t,j.l,AZ B B ?_,⟨J.Cs,λf k=>J.ro f P,λf k=>c.A7 f P,λf k=>c.HF f P,λw E=> ?_,c.fu,λf k=>c.fx f P⟩,?_⟩;.rw[II.1];simp only[QY,xn,X];rw[Q,II.2.2.1];simp only[QY,II.2.1, *]
 .have:=J.fr w (c.E.lv E);exact⟨(this.1 ⟨c.fu w E,λf k=>c.fx f k w E⟩).t (c.E.M E),P⟩
 .unfold Mv;rw[<-S];refine j0 ?_ (jZ _) ((xh.map _).trans (Yn _).symm);rw[List.pairwise_map,List.pairwise_iff_getElem];intro b R v W xc;rw[AeI]at v W;have:=xj b R Om xc (by grind);rw[IK,AfE,getElem!_pos j b v,getElem!_pos j R W]at this;have xo:=LU.Ma j[b].2 j[R].2;grind
end Go.Proofs.YtbmnfifnenajjaaGreat
namespace Go.Proofs.YtbmnfifnenajjaaGreat
open Go.Fg
def FF(b:C Ab)(a:Ai):C N:=(F4 b (a.at 0)).Bk.m (Bs (a.at 0))
def DA(b:C Ab)(a:Ai):C1:=⟨(GC a.Am (FF b a)).CQ,(GC a.Am (FF b a)).I,a.AA,(a.Ac.l:K),(a.Am.l:K),a.round,Mv b a⟩
def Ei(a:C1)(u:F):C F:=[Z N.c a.CQ,Z Fh a.I,.n a.AA,.n a.Kq,.n a.KL,.n a.OJ,u]
structure WR(h:G)(u:F)(t:C WE):Prop where
 Cs:Aw h u CG 2 t
 ro:∀a∈t,Ro h a.1 Bf.c 2 a.2.B4
theorem WR.fs{h:G}{u:F}{t:C WE}(a:WR h u t):Fs (λ_=>True) 4 h u (YtbmnfifnenajjaaGreat.Z Bt.c (t.m (·.2))):=by
 refine Fs.Rt (c:=3) (d:=CG) (e:=Bt.c) (λ_ _=>Aeb) (by omega) (λ_=>B) (λ_=>B) a.Cs ?_
 have e:=a.ro
 clear a
 induction t with
 |nil=>exact .nil
 |cons b j i=>refine .cons ?_ P;have:=(e b P).fs (h:=λ_=>True) (λ_ _=>Aeb) (λ_=>B) (λ_=>B);exact BS.cons (this.up (by omega)) (BS.cons ((Fs.im (c:=h) (a:=.n b.2.Ax) B).up (by omega)) (BS.nil 3 h))
theorem U7{h:G}{c:T}{b a:D}{d:F}(e:A9 a h [.p c b]=A d):Bv (.ld a) [.p c b] h d=L:=by show KI (A9 a h [.p c b]) d=L;rw[e];exact L0 _
abbrev o7:C F:=[.sn,.sn,.n 0,.n 0,.n 0,.n 0,.sn]
theorem f_{b:CI}(Y:BD b.l){h:G}{a:Ai}{x:T->Prop}(W:DC b h a x)(xa:CF b.l a)(xv:Ft a.Am)(xG:1<=a.Ac.l)(xP:∀g∈FF b.l a,Gt g a.Am.l=L):∃u E t,W9 (pos 44) [.p b.x 0] h=A (.AB [.S (Ei (DA b.l a) u),.n 0],E)/\WR E u t/\t.m (·.2)=Mv b.l a/\Bo x h E/\∀c,x c->Lv E c:=by
 let⟨w,I⟩:=Bb (b:=a.Ac) (a:=0) xG
 let⟨xh,p,v⟩:=xa.BC 0 w I
 have U:=Y.Bc xh p v.hb;have ye:=U.Bk;have xL:∀c,x c->Lv h c:=λc s=>W.C4 s;obtain⟨yl,ym,g,xw,rfl,yc⟩:=W;let⟨f,m,xN,xJ,xr,yb,yg,yj⟩:=box h (.I 7 o7)
 have x9:∀(X:F->G->R),bl (.p h.next 0) (h.V (.I 7 o7)) X=X (.p f 0) m:=Dy h _ xN xJ;have o:=xw.ext xr;have x2:m.Ap b.x 2=A g.cv:=Ay o.M 2;let⟨xc,xg,xo⟩:=o.Lf I
 have xg:AR 1 [g.cv,.n 0]=A (.p xc 0):=by grind
 have xo:m.Ap xc 0=A (.p (g.pc 0) 0):=by grind
 have x3:m.AL b.x 3 1=A [g.mv]:=by rw[D1 o.M,Af (by omega),Ad (by omega)];rfl
 have x1:m.Ap b.x 0=A (Z Ab.c b.l):=Ay o.M 0;have V:=o.BC 0 w I;have xz:m.Ap (g.pc 0) 0=A (.n xh):=by rw[Ay V.M];show A (F.n w.Bc)=_;rw[v.ha]
 have xC:Bl 0 [.p b.x 3]=A (.p b.x 3):=by rw[EG]
 have xD:Bl 4 [.pi (Ab.c p)]=A (.pi ((Ab.c p).d 4)):=B;have xT:AM m [.pi ((Ab.c p).d 4)]=A (Z AF.c p.Bk):=B;have xe:=v.CQ U.ex;have xB:FF b.l a=p.Bk.m (Bs w):=by unfold FF;rw[DK I,v.Ca]
 rw[<-xB]at xe;let⟨u,xH,xQ,xY,xt,xE⟩:=gk V p.Bk xe (by omega)
 have xb:=o.ext xt;have xV:Aj (Bv (.ld 1) [.p b.x 3] xH (.S [g.mv])) L Aa=L:=by rw[U7];rfl;rw[F5,D1 xb.M,Af (by omega),Ad (by omega)];rfl
 have xM:(FF b.l a).l<=100:=by grind
 let⟨M,xR,x4⟩:=qR xv xb.Am xY xM xP
 have xs:AH m M:=λq N=>by have:=x4 q P (xE q N);grind
 have xx:=o.ext xs;let⟨xm,r,xO,xK,xu,xd,xU,yk⟩:=box M (.I 2 (Ci.c (GC a.Am (FF b.l a))))
 let⟨ya,x0⟩:=EL M (b:=2) [.sn,.sn] (c:=Ci.c (GC a.Am (FF b.l a))) xO xK B B
 have xZ:r.AL xm 0 2=A (Ci.c (GC a.Am (FF b.l a))):=BB xd;have k:=xx.ext xu;have x8:r.Ap b.x 5=A (.n a.AA):=Ay k.M 5;have x5:r.Ap b.x 2=A g.cv:=Ay k.M 2;have x6:r.Ap b.x 3=A g.mv:=Ay k.M 3;have x7:r.Ap b.x 4=A (.n a.round):=Ay k.M 4;have xj:=Cp k.Ac;rw[Ad0]at xj;have xk:=Cp k.Am.o;rw[Ad0]at xk;let⟨j,d,t,xS,e,xX⟩:=qS Y k xa
 have y:=k.ext e.E;have xW:Aj (Bv .Cq [.p b.x 4] d (.n a.round)) (Aj (Bv .Cq [.p b.x 3] d g.mv) (Aj (Bv .Cq [.p b.x 2] d g.cv) (Aj (Bv .Cq [.p b.x 5] d (.n a.AA)) (Aj (Bv (.ld 2) [.p xm 0] d (.S (Ci.c (GC a.Am (FF b.l a))))) L Aa) Aa) Aa) Aa) Aa=L:=by rw[GL (Ay y.M 4),GL (Ay y.M 3),GL (Ay y.M 2),GL (Ay y.M 5),Mo ((e.E.M xU).t xd)];rfl
 have xA:Cb o7 [(0,2),(2,1),(3,1),(4,1),(5,1),(6,1)] [.S (Ci.c (GC a.Am (FF b.l a))),.n a.AA,.n a.Ac.l,.n a.Am.l,.n a.round,j]=A (.S (Ei (DA b.l a) j)):=by rcases e.Cs with⟨rfl,_⟩|⟨_,_,rfl,_⟩<;>rfl
 have yf:Lv d f:=e.E.lv P;have xF:d.M f=A (.I 7 o7):=(e.E.M P).t P;have xy:BU (Ei (DA b.l a) j)=L:=by rcases e.Cs with⟨rfl,_⟩|⟨_,_,rfl,_⟩<;>rfl
 have xp:=Gb xF (a:=Ei (DA b.l a) j) B xy;have J:∀q,q≠f->(d.set f (.I 7 (Ei (DA b.l a) j))).M q=d.M q:=λq N=>by rw[AN,Ad N]
 have xn:(d.set f (.I 7 (Ei (DA b.l a) j))).AL f 0 7=A (Ei (DA b.l a) j):=BB (by rw[AN,Af B]);have xl:∀q,Lv (d.set f (.I 7 (Ei (DA b.l a) j))) q=Lv d q:=by grind
 generalize d.set f (.I 7 (Ei (DA b.l a) j))=xI at xp J xn xl;have xi:Lv r f:=by grind
 refine⟨j,xI,t,AZ B B ?_,⟨e.Cs.Ar λc s S=>⟨J c (λa=>S (by rw[a];exact e.fu f xi)),by grind⟩,λxq xf=>(e.ro xq xf).Ar λc yi w s S yd=>⟨by rw[J c (λa=>S (by rw[a];exact e.fx xq xf f xi))];grind,by grind⟩⟩,xX,λc s=> ?_,λc s=>by rw[xl];exact e.E.lv P⟩;.rw[s0];simp only[↓x9,↓ya,↓H xD,↓H xC,↓H xT,↓Q,↓H x2,↓H xg,↓H xo,↓H x3,↓H x1,↓H xz,↓H (CB v.hb),↓H xQ,↓Gn xV,↓H xR,↓H x0,↓H xZ,↓H x8,↓H x5,↓H xj,↓H x6,↓H xk,↓H x7,↓H xS,↓Gn xW,↓H xA,↓H xp,↓H xn]
 .have yh:=xL c s;rw[J c P];exact(e.E.M P).t P
def OF:C1:=⟨[],[],0,0,0,0,[]⟩
section
variable{h:G} {u:F} {t:C WE} {q:T} {z:C F}
theorem WR.ap(c:WR h u t)(f:h.M q=A (.I 7 z)):As u q:=AdS λb=>by
 rcases c.Cs with⟨a,_⟩|⟨d,e,a,_,g,_⟩;.exact b (by rw[a];exact Cg q)
 .cases AdS λi:q≠d=>b (by rw[a];exact EN P)
  grind
theorem WR.set(a:WR h u t)(f:h.M q=A (.I 7 z))(d:BV):WR (h.set q d) u t:=⟨a.Cs.Ar λg m c=>⟨by rw[AN,Ad (λb=>c (by rw[b];exact a.ap f))],by grind⟩,λi k=>(a.ro i k).Ar λg v r m c l=>by
 refine⟨?_,by grind⟩;rw[AN];split
 .rename_i b;rw[b,f]at l;rcases a.ro i k with⟨e,_⟩|⟨d,p,e,j,_⟩;.exact BF (by rw[e];exact Cg g) c
  .rw[<-AdS λw:g≠d=>c (by rw[e];exact EN P),b,f]at j;have s:7=i.2.B4.l*2:=(AdW (λo=>match o with|some (n,_)=>n|_=>0) j);omega
 omega⟩
theorem WR.dn(a:WR h u t)(b:C1):BU (Ei b u)=L:=by rcases a.Cs with⟨rfl,_⟩|⟨_,_,rfl,_⟩<;>rfl
theorem WR.fa(f:WR h u t){d:C Ab}{c:Ai}(i:t.m (·.2)=Mv d c):Fs (λ_=>True) 5 h (.S (Ei (DA d c) u)) (.S (C1.c (DA d c))):=by have e:=f.fs;rw[i]at e;have a:∀b:F,Im b=L->Fs (λ_=>True) 4 h b b:=λb g=>(Fs.im g).up (by omega);exact Fs.S (BS.cons (a _ B) (BS.cons (a _ B) (BS.cons (a _ B) (BS.cons (a _ B) (BS.cons (a _ B) (BS.cons (a _ B) (BS.cons e (BS.nil 4 _))))))))
theorem W7{b a:C F}(d:BS (λ_=>True) 5 h b a):∃f,Dp h (.AB b)=A (.AB a,f):=by
 let⟨c,g,_⟩:=d 34 h (FC.refl _)
 refine⟨c,?_⟩;show(match CT _ h b with|some (a,e)=>A (F.AB a,e)|none=>O)=_;grind
theorem jt(f:WR h u t)(g:h.M q=A (.I 7 z)){b:C Ab}{a:Ai}(j:t.m (·.2)=Mv b a):∃d e,AX 7 h [.p q 0,.S (Ei (DA b a) u)]=A (AC,d)/\d.AL q 0 7=A (Ei (DA b a) u)/\Dp d (.AB [.S (Ei (DA b a) u),.n 0])=A (.AB [.S (C1.c (DA b a)),.n 0],e):=by
 let⟨e,i⟩:=W7 (BS.cons ((f.set g (.I 7 (Ei (DA b a) u))).fa j) (BS.cons ((Fs.im (a:=.n 0) B).up (by omega)) (BS.nil 5 _)))
 exact⟨_,e,Gb g B (f.dn _),BB (by rw[AN,Af B]),i⟩
end
def B7(b:C Ab)(a:Ai×K):C1×K:=if a.2≠0 then(OF,a.2)else(DA b a.1,0)
theorem g9{b:C Ab}(X:Cl b){f m xb:D}(Y:f=400)(d:AQ)(T:d.l.l<=2000000)(U:D3 d.l<=100000000){j:Ai->Prop}(s:∀e:CI,e.l=b->Li e->P5 e f j)(p:∀a,JA b f m d=A a->a.2=0->j a.1){a:Ai×K}(xa:Hr b f m xb d=A a)(N:a.2=0->CF b a.1/\BD b/\Ft a.1.Am/\1<=a.1.Ac.l/\∀xj∈FF b a.1,Gt xj a.1.Am.l=L):AY 12 [Z Ab.c b,.S (AQ.c d)] (.AB [.S (C1.c (B7 b a).1),.n (B7 b a).2]):=by
 let⟨xz,S,xt,xr,xk,Q,xd,xx⟩:=box G.Aq (.I 2 (AQ.c d))
 let⟨c,V,xu,xs,n,R,xw,xy⟩:=box S (.I 7 o7)
 have xA:=(n.M xd).t Q;let⟨xB,i,xc,v,xl,r⟩:=f9 X Y d T U s p xa V (g:=λxf=>xf=c) P
 have k:=(v c B).t R;by_cases g:a.2=0
 .obtain⟨e,W,rfl,xm,o⟩:=r g;subst W;let⟨E,H,I,J,M⟩:=N g
  let⟨u,xo,t,xv,x,xe,w,_⟩:=f_ H o E I J M
  let⟨xp,xq,xi,xg,y⟩:=jt x ((w c B).t k) xe
  unfold B7;rw[Ad (by grind)];refine EV B B ?_ y;rw[g]at xc;rw[aJ.1];simp only[QY,aJ.2, *]
 .have xh:B7 b a=(OF,a.2):=by unfold B7;grind
  rw[xh];have xn:Cb o7 [] []=A (.S o7):=B;have xi:=Gb k (a:=o7) B B;have xg:(i.set c (.I 7 o7)).AL c 0 7=A o7:=BB (by rw[AN,Af B]);refine EV B B (e:=.AB [.S o7,.n a.2]) (c:=i.set c (.I 7 o7)) ?_ (h:=i.set c (.I 7 o7)) B;rw[aJ.1];simp only[QY, *]
def E3{a:Type}(e:C (C a))(c d:D)(b:a):a:=(((e[c]?).g [])[d]?).g b
def GQ(a:AK)(b:D):N:=(a.An[b]?).g AO
def EI(a:AK)(b c:D):N:=E3 a.AG b c AO
def D9(a:AK)(b:D):K:=(a.AS[b]?).g 0
theorem V4(a:AK)(b c:D):Ek a b c=E3 a.A4 b c EQ:=rfl
def cQ(d:AK)(a:AF):Bs d a=if 0<=a.AD then(if a.Ax<0 then GQ d a.AD.n else EI d a.Ax.n a.AD.n)else AO:=by
 unfold Bs H0;by_cases b:0<=a.AD
 .by_cases c:a.Ax<0;.rw[Af c,Af b,Af b,Af c];rfl
  .rw[Ad c,Af b,Af b,Ad c];unfold EI E3;grind
 grind
variable{a b d e:D}
def Kn{g:Type}{f:C (C g)}{h c:g}(i:¬(a=d/\b=e)):E3 (CP f d e h) a b c=E3 f a b c:=by unfold E3 CP;grind
def G6{e:Type}(d:C (C e))(b c:D):Prop:=∃a,d[b]? =A a/\c<a.l
def T_{e:Type}{d:C (C e)}{c f:e}(g:G6 d a b):E3 (CP d a b c) a b f=c:=by
 let⟨h,j,i⟩:=g
 unfold E3;have:(CP d a b c)[a]? =A (h.set b c):=by unfold CP;grind
 grind
def lx{g:Type}{e:C (C g)}{j d:g}(h:¬G6 e b a):E3 (CP e b a j) b a d=d:=by
 unfold E3 CP;split
 .rename_i f i;have k:f.l<=a:=by
   rcases Nat.lt_or_ge a _ with c|c;.exact BF ⟨f,i,c⟩ h
   omega
  grind
 grind
def YN{j:Type}(d:C (C j))(e f a b:D)(g c:j):E3 (CP d e f g) a b c=g\/E3 (CP d e f g) a b c=E3 d a b c\/E3 (CP d e f g) a b c=c:=by
 by_cases h:a=e/\b=f
 .obtain⟨rfl,rfl⟩:=h;by_cases i:G6 d a b;.exact .i (T_ i)
  .exact .j (.j (lx i))
 .exact .j (.i (Kn h))
def B5(a:D)(b:N):Prop:=Gt b (a:K)=L
theorem It(a:D):B5 a AO:=rfl
def B5.up{c:N}(d:B5 b c)(e:b<=a):B5 a c:=by unfold B5 Gt BK at*;grind
structure IW(b d:AK):Prop where
 Vx:∀a,(GQ b a).Ak≠0->GQ d a=GQ b a
 AD:∀c a,(EI b c a).Ak≠0->EI d c a=EI b c a
def IW.refl(a:AK):IW a a:=⟨P,P⟩
def IW.AI{e f g:AK}(c:IW e f)(h:IW f g):IW e g:=
 ⟨λa b=>(h.Vx a (by rw[c.Vx a b];grind)).t (c.Vx a b),λa d b=>(h.AD a d (by rw[c.AD a d b];grind)).t (c.AD a d b)⟩
def IW.Eo{d e:AK}(f:IW d e){b:AF}(a:(Bs d b).Ak≠0):Bs e b=Bs d b:=by
 rw[cQ]at a⊢;rw[cQ];by_cases g:0<=b.AD
 .rw[Af g]at a⊢;rw[Af g];by_cases c:b.Ax<0;.rw[Af c]at a⊢;rw[Af c];exact f.Vx _ a
  .rw[Ad c]at a⊢;rw[Ad c];exact f.AD _ _ a
 grind
def Dm(a:C AE):C K:=a.f λc=>c.AV.m λb=>b.Ct
def IM(c:C Ab)(a:AK)(b:D):K:=(((F4 c a).Av[b]?).g bv).op
def CW(b:Ai)(a d c:D):Prop:=a<b.Ac.l/\(b.at a).AP=(d:K)/\(b.at a).Ax=(c:K)
structure WF(g:C Ab)(a:Ai):Prop where
 sh:CF g a
 Fj:Ft a.Am
 AA:0<=a.AA/\a.AA<=6000
 vp:∀b d,B5 a.Am.l (GQ (a.at b) d)
 vo:∀b c d,B5 a.Am.l (EI (a.at b) c d)
 p0:∀b,b<a.Ac.l->(GQ (a.at b) 0).Ak≠0
 f0:∀b c,0<=D9 (a.at b) c
 Fk:∀b c,D9 (a.at b) c=0->∀d,(EI (a.at b) c d).Ak=0/\Ek (a.at b) c d=EQ
 Fo:∀e f c,CW a e f c->0<D9 (a.at f) c/\∀d,((EI (a.at f) c d).Ak=0↔(Ek (a.at f) c d).is=Aa)
 B1:∀b c d,Ek (a.at b) c d=EQ\/(Ek (a.at b) c d).is=L/\∃e,CW a e b c/\(a.at e).Az=(Ek (a.at b) c d).Az
 KN:∀e h f c,CW a e f c->CW a h f c->(a.at h).Az=(a.at e).Az->h=e
 L4:∀b,b<a.Ac.l->(a.at b).next≠-1->(Et g (a.at b)).Ak≠0/\(Et g (a.at b)).Ak≠5
 AV:∀i∈Dm a.Am,∃b c:D,b<a.Ac.l/\c<1000/\i=((1000*b+c:D):K)/\IM g (a.at b) c=12/\0<D9 (a.at b) c/\(EI (a.at b) c 0).Ak=0
 Jx:(Dm a.Am).Nodup
def YA(a:Ai):Prop:=∀b e d,CW a b e d->0<(a.at b).Az->∃c,c<a.Ac.l/\(a.at c).next=(b:K)
def E4{a:Ai}{d:AK}(e:b<a.Ac.l)(c:D):(a.AJ b d).at c=if c=b then d else a.at c:=by unfold Ai.at Ai.AJ;grind
def HE{c:Ai}{b:AK}(d:a<c.Ac.l):(c.AJ a b).at a=b:=by rw[E4 d,Af B]
def R7{a:Ai}{c:D}{d:AK}(e:b<a.Ac.l)(f:c≠b):(a.AJ b d).at c=a.at c:=by rw[E4 e,Ad f]
def Ej(a:Ai)(c:D)(b:AK):(a.AJ c b).Ac.l=a.Ac.l:=Aed
def Di{a:Ai}(c:b<a.Ac.l):a.Ac[b]? =A (a.at b):=by
 let⟨e,d⟩:=Bb c
 rw[DK d];grind
def Y2{c:C _}{a b:AK}(d:DQ a b):F4 c b=F4 c a:=by unfold F4;rw[d.Bc]
def AaW{c:C _}{a b:AK}(f:DQ a b)(e:IW a b)(d:(Et c a).Ak≠0):Et c b=Et c a:=by unfold Et at*;rw[Y2 f];exact e.Eo d
structure DP(d:Ai)(e:D)(b:AK):Prop where
 hi:e<d.Ac.l
 En:DQ (d.at e) b
 next:b.next=(d.at e).next
 Ar:IW (d.at e) b
 vp:∀c,B5 d.Am.l (GQ b c)
 vo:∀a c,B5 d.Am.l (EI b a c)
 f0:∀a,0<=D9 b a
 fm:∀a,0<D9 (d.at e) a->0<D9 b a
 Fk:∀a,D9 b a=0->∀c,(EI b a c).Ak=0/\Ek b a c=EQ
 Fo:∀f a,CW d f e a->∀c,((EI b a c).Ak=0↔(Ek b a c).is=Aa)
 B1:∀a c,Ek b a c=EQ\/(Ek b a c).is=L/\∃f,CW d f e a/\(d.at f).Az=(Ek b a c).Az
 AV:∀a:D,a<1000->((1000*e+a:D):K)∈Dm d.Am->(EI b a 0).Ak=0
def DP.Hf{c:Ai}{e:AK}(a:DP c d e){g f:D}:CW (c.AJ d e) b g f↔CW c b g f:=by
 unfold CW;rw[Ej,E4 a.hi];by_cases h:b=d;.subst h;rw[Af B,a.En.AP,a.En.Ax]
 grind
variable{c:AK}
def DP.Az{a:Ai}(b:DP a e c)(d:D):((a.AJ e c).at d).Az=(a.at d).Az:=by
 rw[E4 b.hi];split;.rename_i f;subst f;exact b.En.Az
 omega
def DP.A_{a:Ai}(b:DP a e c)(d:D):((a.AJ e c).at d).next=(a.at d).next:=by
 rw[E4 b.hi];split;.rename_i f;subst f;exact b.next
 omega
def DP.vm{b:Ai}(a:DP b d c)(f:YA b):YA (b.AJ d c):=λh k i j e=>by
 rw[a.Az]at e;let⟨g,l,m⟩:=f h k i (a.Hf.1 j) e
 exact⟨g,by rw[Ej];grind,by rw[a.A_];grind⟩
def WF.AJ{u:C _}{g:Ai}(d:WF u g){i:D}{m:AK}(a:DP g i m):WF u (g.AJ i m)where
 sh:=d.sh.AJ (Di a.hi) a.En a.next
 Fj:=d.Fj
 AA:=d.AA
 vp:=λc b=>by
  rw[E4 a.hi];split;.exact a.vp b
  .exact d.vp c b
 vo:=λc b f=>by
  rw[E4 a.hi];split;.exact a.vo b f
  .exact d.vo c b f
 p0:=λc l=>by
  rw[Ej]at l;rw[E4 a.hi];split;.rw[a.Ar.Vx 0 (d.p0 i Om)];exact d.p0 i Om
  .exact d.p0 c l
 f0:=λc b=>by
  rw[E4 a.hi];split;.exact a.f0 b
  .exact d.f0 c b
 Fk:=λc b=>by
  rw[E4 a.hi];split;.exact a.Fk b
  .exact d.Fk c b
 Fo:=λe p b c=>by
  have t:=a.Hf.1 c;have:=d.Fo e p b t;rw[E4 a.hi];split;.rename_i h;subst h;exact⟨a.fm b Om,a.Fo e b t⟩
  omega
 B1:=λo b c=>by
  have x:∀f:BA,(f=EQ\/f.is=L/\∃e,CW g e o b/\(g.at e).Az=f.Az)->(f=EQ\/f.is=L/\∃e,CW (g.AJ i m) e o b/\((g.AJ i m).at e).Az=f.Az):=by
   rintro f (q|⟨q,e,n,j⟩)
   .grind
   .exact .j ⟨q,e,a.Hf.2 n,by rw[a.Az];grind⟩
  refine x _ ?_;rw[E4 a.hi];split;.rename_i h;subst h;exact a.B1 b c
  .exact d.B1 o b c
 KN:=λe v p b n j k=>by rw[a.Az,a.Az]at k;exact d.KN e v p b (a.Hf.1 n) (a.Hf.1 j) k
 L4:=λc l r=>by
  rw[Ej]at l;rw[a.A_]at r;have:=d.L4 c l r;rw[E4 a.hi];split;.rename_i h;subst h;rw[AaW a.En a.Ar Om];grind
  omega
 AV:=λy s=>by
  let⟨c,b,n,j,k,z,w,E⟩:=d.AV y s
  refine⟨c,b,by rw[Ej];grind,j,k,?_⟩;rw[E4 a.hi];split;.rename_i h;subst h;refine⟨?_,a.fm b w,a.AV b j (k▸s)⟩;unfold IM at*;rw[Y2 a.En];grind
  omega
 Jx:=d.Jx
