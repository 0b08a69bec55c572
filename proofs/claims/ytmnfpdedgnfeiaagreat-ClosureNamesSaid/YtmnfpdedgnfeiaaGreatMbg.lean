/- Part of the proof. -/
import Derived.Test.YtmnfpdedgnfeiaaGreatMbf
set_option linter.all false
noncomputable section
open Option renaming some->A,none->O,getD->Option.g,bind->Option.b
open _root_ renaming rfl->B,List->C,Nat->D,Int->K,if_neg->Ad,if_pos->Af,Option->Aj,Bool->Ak,cond->An,absurd->A_,decide_eq_false->Ba,decide_eq_true->Be
open Bool renaming true->L,false->Ac
open Decidable renaming decide->Au
open Nat renaming beq->Bb,ble->Co,le_refl->C6
open List renaming replicate->Bv,length->List.l,map->List.m,take->List.t,drop->List.d,flatMap->List.f
open Go.IntKind renaming i64->Go.IntKind.n
open Array renaming toList->Array.l
open Eq renaming trans->Eq.t,symm->Eq.s
open Or renaming inl->Or.i,inr->Or.j
open Int renaming toNat->Int.n
namespace Go.Proofs.YtmnfpdedgnfeiaaGreat
open Go.Fg
def Rq(f:C Ab)(c:AP):Prop:=∃(d:D)(b:Ab),c.A4=(d:K)/\f[d]? =A b/\c.AI.l=b.Ay.l/\b.Ay.l<=1000000/\∀a∈b.Ay,a.AT.l<1000000/\(∀e∈a.AT,∃g,GX c e=A g)/\(a.op=8\/a.op=9->a.AT≠[])
def Gb(e:C Ab)(a:AP)(b:D):Ak:=match e[a.A4.n]?with
 |some c=>match c.Ay[b]?,a.AI[b]?with
  |some f,A d=>FB a f d
  |_,_=>Ac
 |none=>Ac
def JS(e:C Ab)(a:AP)(b d:D):C A8:=((List.range d).filter (Gb e a)).m λ(c:D)=>⟨(b:K),(c:K)⟩
def eA(c:C _)(b:AP)(d a:D):JS c b d (a+1)=JS c b d a++(if Gb c b a=L then[⟨d,a⟩]else[]):=by unfold JS;rw[Ajw,List.filter_append,AiZ];congr 1;cases e:Gb c b a<;>simp[e]
def ah(c:C Ab)(b:AP)(d a:D):(JS c b d a).l<=a:=by unfold JS;rw[Aiw];have:=List.length_filter_le (Gb c b) (List.range a);rw[Aip]at this;grind
variable{a:D}
def vj{xm:Aa->Bz}{e:G}{k t:Aa}{b:AP}{xl xk xb xd:F}{xj xc:D->F}(xH:Dt xm e a t b xl xk xb xd xj xc){j:C Ab}{xn:C F}(xI:e.N k=A (.I 6 (Z Ab.c j::xn)))(xN:Lv e k)(xD:Rq j b){u:C A8}(xJ:u.l<=400000000){d:F}(V:AF e d A8.c 2 u){g:G}(xp:AR g e)(r:EV g d)(v z:F)(xo:Dt xm g a t b xl xk xb xd xj xc)(xw:g.N k=A (.I 6 (Z Ab.c j::xn)))(xi:Lv g k):∃p R,jj W9 35 4 [.n b.AI.l,.p t 0,.n a,.n 0,.n a,v,z,.p k 0,d] e=jj W9 35 3 [.n a,v,z,.p k 0,p] R/\AF R p A8.c 2 (u++JS j b a b.AI.l)/\AR g R/\EV g p:=by
 let⟨xr,W,xe,xf,xM,xK,xz⟩:=xD
 let⟨p,m,S,xC,q,xv⟩:=Ez (h:=b.AI.l) (f:=λc d m=>jj W9 35 4 [.n b.AI.l,.p t 0,.n a,.n c,.n a,v,z,.p k 0,d] m) (g:=λc d m=>AF m d A8.c 2 (u++JS j b a c)/\AR g m/\EV g d)
  (λc d m xh xq=>by
   let⟨V,q,r⟩:=xq
   let⟨xa,xg⟩:=Bo xh
   let⟨U,T⟩:=Bo (b:=W.Ay) (a:=c) (by omega)
   let⟨xE,xF,xG⟩:=xz U (Ail T)
   have X:=Dx xh
   let⟨xx,P,H⟩:=uN (xo.ext q) ((q.N xi).t xw) (q.lv xi) xe xf T xg xE xF xG
   have xA:Gb j b c=FB b U xa:=by unfold Gb;rw[xe];show(match j[xr]?with|some W=>_|none=>Ac)=_;rw[xf];simp only[T,xg]
   have N:=eA j b a c
   rw[xA]at N
   cases M:FB b U xa with
   |true=>
    rw[M]at P;rw[M,Af B]at N;have xL:=ah j b a c;have xu:BE [(.n 0),(.n 0)] [(0,1),(1,1)] [.n a,.n c]=A (.S (A8.c ⟨a,c⟩)):=B;let⟨p,xy,xB,xO,Y,xs⟩:=GS (f:=A8.c) (w:=2) (b:=⟨a,c⟩) (o:=.S (A8.c ⟨a,c⟩)) (h:=16) (λ_=>B) B B (V.ext H) (EI (by grind))
    have J:=q.AQ H;refine⟨p,xy,?_,by grind,λE o=>⟨(Y.N (J.lv o) (r E o)).t (J.N o),Y.lv (J.lv o) (r E o)⟩,λE o=>xs E (J.lv o) (r E o)⟩;rw[Mw.2.2.2.2.2.1];simp only[QY,X,Mw.2.2.2.2.2.2.1,P,xu,xB,Mw.2.2.2.2.2.2.2,BF (a:=c) (by omega)]
   |false=>rw[M]at P;rw[M,Ad (by grind),Aiy]at N;refine⟨d,xx,?_,by rw[N];exact V.ext H,q.AQ H,r⟩;rw[Mw.2.2.2.2.2.1];simp only[QY,X,Mw.2.2.2.2.2.2.1,P,Mw.2.2.2.2.2.2.2,BF (a:=c) (by omega)])
  (b:=d) (a:=e) ⟨by show AF e d A8.c 2 (u++[]);rw[Aiy];grind,xp,r⟩
 have S:jj W9 35 4 [.n b.AI.l,.p t 0,.n a,.n 0,.n a,v,z,.p k 0,d] e=jj W9 35 4 [.n b.AI.l,.p t 0,.n a,.n b.AI.l,.n a,v,z,.p k 0,p] m:=S;have xt:=Dz b.AI.l;refine⟨p,m,?_,xC,q,xv⟩;rw[S,Mw.2.2.2.2.2.1];simp only[↓Q,↓QT,Aic,xt]
def Ix(d:C Ab)(c:C AP):D->C A8
 |0=>[]
 |a+1=>Ix d c a++(match c[a]?with|some b=>JS d b a b.AI.l|none=>[])
def ef{d:C _}{c:C AP}(f:∀b∈c,Rq d b)(e:D)(h:1000000<=e):∀a,(Ix d c a).l<=a*e
 |0=>by rw[Nat.zero_mul];exact C6 _
 |a+1=>by
  have j:=ef f e h a
  have g:(Ix d c (a+1)).l=(Ix d c a).l+(match c[a]?with|some b=>JS d b a b.AI.l|none=>[]).l:=Aio
  rw[g,AjO]
  refine Nat.add_le_add j ?_
  cases i:c[a]?with
  |none=>grind
  |some b=>
   let⟨k,l,_,_,m,n,_⟩:=f b (Ail i)
   exact AiN (ah d b a b.AI.l) (by omega)
def ur{xc:Aa->Bz}{d:G}{l:C Ab}{U:C BL}{Z:D}{m:Aa}{a:Ah}{g:Ly}(j:EU xc d l U Z m a g)(J:∀k∈a.T,Rq l k)(xh:a.T.l<=400):∃b v,W9 (Ar 35) [.p m 0] d=A (b,v)/\AF v b A8.c 2 (Ix l a.T a.T.l)/\AR d v/\EV d b:=by
 have xd:=j.N;have E:=C4 j.T;rw[Aip]at E;let⟨b,e,x,xa,p,V⟩:=Ez (h:=a.T.l) (f:=λc b e=>jj W9 35 2 [.n a.T.l,g.cv,.p m 0,.n c,b] e) (g:=λc b e=>AF e b A8.c 2 (Ix l a.T c)/\AR d e/\EV d b)
  (λc b e t R=>by
   let⟨xb,p,X⟩:=R
   let⟨k,r⟩:=Bo t
   have xe:=Dx t;have q:=j.ext p;let⟨S,y⟩:=Dm (f:=US g.pc) (w:=1) (λ_=>B) q.T (Ga t)
   have xl:AW e [.p S (c*1)]=A (.p (g.pc c) 0):=by have:=y.AA (f:=US g.pc) (λ_=>B) (Ga t) (b:=0) (by grind);exact this
   have u:=q.Bw c k r;have xk:=u.N;have xi:=C4 u.AI;have xg:=ef J 1000000 (C6 _) c;let⟨N,z,xf,xj,P,W⟩:=vj u q.N q.lv (J k (Ail r)) (by omega) xb p X (.n a.T.l) g.cv (j.Bw c k r) j.N j.lv
   refine⟨N,z,?_,?_,P,W⟩;.show jj W9 35 2 _ _=jj W9 35 2 _ _;rw[Mw.2.2.1];simp only[QY,Mw.2.2.2.1,H y.ia,Mw.2.2.2.2.1,H (BF (a:=c) (by omega)), *]
   .show AF z N A8.c 2 (Ix l a.T c++_);rw[r];grind)
  (b:=.sn) (a:=d) ⟨AF.sn d,λM Y=>⟨B,Y⟩,λM _=>CM M⟩
 have x:jj W9 35 2 [.n a.T.l,g.cv,.p m 0,.n 0,.sn] d=jj W9 35 2 [.n a.T.l,g.cv,.p m 0,.n a.T.l,b] e:=x;have T:=Dz a.T.l;refine⟨b,e,Bd B B ?_,xa,p,V⟩;rw[Mw.1];simp only[QY,xd,E];rw[x,Mw.2.2.1];simp only[↓Q,↓QT,Aic,T,Mw.2.1]
def A9(a:AP)(b:AH):M:=(GX a b).g AK
def E3:BC:=⟨0,Ac,Ac⟩
def Dl(c:C Ab)(a:Ab)(d f e g:K):AP:=
 ⟨d,f,e,g,Bv a.Ap.n AK,a.Ay.m λb=>Bv (C_ c b).n AK,Bv a.Ay.l 0,-1,a.Ay.m λb=>Bv (C_ c b).n E3⟩
def Ah.AM(a:Ah)(c:D)(b:AP):Ah:=⟨a.T.set c b,a.Ae,a.round,a.Aq⟩
def ED(d:C Ab)(a:Ah)(b f e h:K)(g:M):Ah×K:=
 if a.T.l=400 then(a,5)else match d[b.n]?with
 |some c=>(⟨a.T++[{Dl d c b f e h with Ap:=(Bv c.Ap.n AK).set 0 g}],a.Ae,a.round,a.Aq⟩,0)
 |none=>(a,0)
def ER(a:AP)(b:D)(c:M):AP×Ak:=
 if c.Ai=0\/((a.Ap[b]?).g AK).Ai≠0 then(a,Ac)else({a with Ap:=a.Ap.set b c},L)
def C2(b:AH->M)(d:C AH)(c:AP):D->AP×Ak
 |0=>(c,Ac)
 |a+1=>match d[a]?with
  |some e=>((ER (C2 b d c a).1 a (b e)).1,(ER (C2 b d c a).1 a (b e)).2||(C2 b d c a).2)
  |none=>C2 b d c a
def C5{b:Type}(a:C (C b))(c d:D)(f:b):C (C b):=match a[c]?with
 |some e=>a.set c (e.set d f)
 |none=>a
def AP.Aw(a:AP)(b c:D)(d:M):AP:={a with AB:=C5 a.AB b c d}
def BT(a:AP)(b c:D):BC:=(((a.A5[b]?).g [])[c]?).g E3
def CE(a:AP)(b c:D)(e:M)(d:BC):AP×Ak×K:=
 if BT a b c=d then(a,Ac,0)else if(BT a b c).is=L then(a,Ac,6)
 else({a with A5:=C5 a.A5 b c d,AB:=C5 a.AB b c e},L,0)
def B7(b:D->M)(d:D)(c:BC)(e:AP):D->AP×Ak×K
 |0=>(e,Ac,0)
 |a+1=>
  if(B7 b d c e a).2.2≠0\/(b a).Ai=0 then B7 b d c e a
  else if(CE (B7 b d c e a).1 d a (b a) c).2.2≠0 then((B7 b d c e a).1,(B7 b d c e a).2.1,(CE (B7 b d c e a).1 d a (b a) c).2.2)
  else((CE (B7 b d c e a).1 d a (b a) c).1,(B7 b d c e a).2.1||(CE (B7 b d c e a).1 d a (b a) c).2.1,0)
def Qi:AP:=⟨0,-1,0,0,[],[],[],-1,[]⟩
def Ah.at(a:Ah)(b:D):AP:=(a.T[b]?).g Qi
def fR:Ab:=⟨[],0,[],[],[]⟩
def Ch(b:C Ab)(a:AP):Ab:=(b[a.A4.n]?).g fR
def M6:AD:=⟨0,[],0,[]⟩
def DN(d:C Ab)(a:AP)(c:D):M:=match(Ch d a).Bs[c]?with|some b=>A9 a b|none=>AK
def b6:AH:=⟨0,0⟩
def B8(b:C Ab)(a:AP):M:=A9 a (((Ch b a).A6[0]?).g b6)
def HU(b:Ah)(e:D)(f:M):Ah×Ak×K:=
 let a:=b.at e
 let c:=a.AN.n
 let d:=B7 (λ_=>f) a.Ao.n ⟨a.As,L,L⟩ (b.at c) (((b.at c).AB[a.Ao.n]?).g []).l
 (b.AM c d.1,d.2)
def Fh(e:C Ab)(b:Ah)(d:D):Ah×Ak×K:=
 let a:=b.at d
 if a.next= -1 then
  let c:=ED e b a.A4 a.AN a.Ao (a.As+1) (B8 e a)
  if c.2≠0 then(b,Ac,c.2)else(c.1.AM d {a with next:=(b.T.l:K)},L,0)
 else(b,Ac,0)
def Gp(c:C Ab)(b:Ah)(e:D):Ah×Ak:=
 let a:=b.at e
 let d:=C2 (A9 a) (Ch c a).A6 (b.at a.next.n) (Ch c a).A6.l
 (b.AM a.next.n d.1,d.2)
def EM(a:C Ab)(b:Ah)(c:D):Ah×Ak×K:=
 let e:=b.at c
 if(B8 a e).Ai=0 then(b,Ac,0)
 else if(B8 a e).Ai=5 then HU b c (B8 a e)
 else
  let d:=Fh a b c
  if d.2.2≠0 then d
  else
   let f:=Gp a d.1 c
   (f.1,f.2||d.2.1,0)
def Nx(c:C Ab)(a:AP)(b:D):C AH:=(((Ch c a).Ay[b]?).g M6).AT
def Cl(e:C Ab)(b:Ah)(d:D):Ah×Ak:=
 let a:=b.at d
 if a.As>0 then(b,Ac)
 else
  let c:=b.at a.AN.n
  let f:=C2 (A9 c) (Nx e c a.Ao.n) a (Nx e c a.Ao.n).l
  (b.AM d f.1,f.2)
def Et(c:C Ab)(b:Ah)(f:D):Ah×Ak×K:=
 let a:=b.at f
 let d:=a.AN.n
 let e:=B7 (DN c a) a.Ao.n ⟨a.As,Ac,L⟩ (b.at d) (Ch c a).Bs.l
 (b.AM d e.1,e.2)
def Eb(e:C Ab)(d:Ah)(b:D):Ah×Ak×K:=
 if(d.at b).AN= -1 then(d,Ac,0)
 else
  let c:=Cl e d b
  let a:=Et e c.1 b
  if a.2.2≠0 then(a.1,c.2,a.2.2)
  else if(Ch e (d.at b)).A6.l=0 then(a.1,c.2||a.2.1,0)
  else
   let f:=EM e a.1 b
   (f.1,(c.2||a.2.1)||f.2.1,f.2.2)
def Cb(b:C Ab)(c:Ah):D->Ah×Ak×K
 |0=>(c,Ac,0)
 |a+1=>
  if(Cb b c a).2.2≠0\/¬a<(Cb b c a).1.T.l then Cb b c a
  else((Eb b (Cb b c a).1 a).1,(Cb b c a).2.1||(Eb b (Cb b c a).1 a).2.1,(Eb b (Cb b c a).1 a).2.2)
def He(a:C Ab)(b:D):D->Ah->Aj (Ah×K)
 |0,_=>O
 |d+1,c=>
  if(Cb a c b).2.2≠0 then A ((Cb a c b).1,(Cb a c b).2.2)
  else if(Cb a c b).2.1=L then He a b d (Cb a c b).1
  else A ((Cb a c b).1,0)
def Gy(b:AP)(a:AD):Ak:=Au (a.op=6)&&(!Au ((A9 b ((a.AT[0]?).g b6)).Ai=0)&& !Au ((A9 b ((a.AT[1]?).g b6)).Ai=0))
def LY(c:C Ab)(b:Ah):K:=if(b.T.any λa=>(Ch c a).Ay.any (Gy a))=L then 6 else 0
def Hf(b:C Ab)(d e:D)(c:Ah):Aj (Ah×K):=match He b d e c with
 |some a=>A (if a.2≠0 then a else(a.1,LY b a.1))
 |none=>O
def Ah.Aw(a:Ah)(b c d:D)(e:M):Ah:=a.AM b ((a.at b).Aw c d e)
def GW(b:Ah)(a:BM):Ah:=b.Aw (a.Cq/1000).n (a.Cq % 1000).n 0 a.v
def DE(a:Ah)(b:EW):Ah×M×K:=
 if(BA a.Ae b).e≠0 then(a,AK,(BA a.Ae b).e)
 else((BA a.Ae b).Gx.foldl GW ⟨a.T,(BA a.Ae b).m,a.round,a.Aq⟩,(BA a.Ae b).v,0)
def Cd(a:C M)(b:D):M:=(a[b]?).g AK
def CV(c:Ah)(d:A8)(b:AD)(a:C M):Ah×M×K:=
 if b.op=4 then(c,Iu b.Bk a,0)
 else if b.op=6 then(c,(if(Cd a 0).Ai=0 then Cd a 1 else Cd a 0),0)
 else if b.op=7 then(c,Cd a 0,0)
 else if b.op=10 then DE c ⟨1,Cd a 0,AK,AK,0⟩
 else if b.op=12 then DE c ⟨3,Cd a 0,Cd a 1,AK,1000*d.F3+d.Ao⟩
 else if b.op=13 then DE c ⟨4,Cd a 0,AK,AK,0⟩
 else if b.op=14 then(c,MS (Cd a 0),0)
 else(c,KF b (Cd a 0),0)
def H0(e:C Ab)(c:Ah)(a:A8)(f:AD)(d:M):Ah×K:=
 if d.Ai≠5 then ED e c (CO e f.Bk) a.F3 a.Ao 0 d
 else
  let b:=c.at a.F3.n
  (c.AM a.F3.n {b with AB:=b.AB.set a.Ao.n (((b.AB[a.Ao.n]?).g []).m λ_=>d)},0)
def Bm(a:Ah)(b:A8)(d:K):Ah:=
 let c:=a.at b.F3.n
 ⟨a.T.set b.F3.n {c with AI:=c.AI.set b.Ao.n d},a.Ae,a.round,a.Aq+1⟩
def Ev(j:C Ab)(f:Ah)(e:A8)(k:K):Ah×K:=
 if f.Aq=6000 then(f,5)
 else
  let d:=Bm f e k
  let g:=e.F3.n
  let h:=e.Ao.n
  let i:=d.at g
  let c:=((Ch j i).Ay[h]?).g M6
  let a:=c.AT.m (A9 i)
  if c.op=8\/c.op=9 then H0 j d e c (Cd a 0)
  else if c.op=11 then
   let b:=DE d ⟨2,Cd a 0,Cd a 1,Cd a 2,0⟩
   (b.1,b.2.2)
  else if c.op=5 then(d.Aw g h (D1 (Cd a 0) (Cd a 1)).1.n (D1 (Cd a 0) (Cd a 1)).2,0)
  else
   let b:=CV d e c a
   if b.2.2≠0 then(b.1,b.2.2)else(b.1.Aw g h 0 b.2.1,0)
def C1(c:C Ab)(e:C A8)(d:K)(a:Ah):D->Ah×K
 |0=>(a,0)
 |b+1=>if(C1 c e d a b).2≠0 then C1 c e d a b else match e[b]?with
  |some f=>Ev c (C1 c e d a b).1 f d
  |none=>C1 c e d a b
def Bp(b:C Ab)(a:Ah):C A8:=Ix b a.T a.T.l
def KS(b:C Ab)(e f:D)(a:Ah):Aj (Ah×K):=
 let d:Ah:=⟨a.T,a.Ae,a.round+1,a.Aq⟩
 let c:=C1 b (Bp b a) (a.round+1) d (Bp b a).l
 if c.2≠0 then A c else Hf b e f c.1
def Iy(b:C Ab)(d e:D):D->Ah->Aj (Ah×K)
 |0,_=>O
 |f+1,a=>if(Bp b a).l=0 then A (a,0)else match KS b d e a with
  |some c=>if c.2≠0 then A c else Iy b d e f c.1
  |none=>O
theorem UZ{f:Type}{b:C _}{a:D}{d:C _}(h:b[a]? =A d)(k:D)(e:f):C5 b a k e=b.set a (d.set k e):=by unfold C5;grind
theorem IM{e:Type}{b:C e}{i:D}{f t:e}(l:b[i]? =A f){a:D}{d:e}(h:(b.set i t)[a]? =A d):(a=i/\d=t)\/(a≠i/\b[a]? =A d):=by grind
section
variable{s:Aa->Bz} {h:G} {i:D} {p:Aa} {c:AP} {g j n m:F} {q r:D->F}
def Fb(s:Aa->Bz)(h w:G)(t:Bz):Prop:=∀a,Lv h a->s a≠t->w.N a=h.N a/\Lv w a
theorem SJ{w:G}{b:Aa}{t:Bz}(o:s b=t)(l:∀a,a≠b->w.N a=h.N a)(e:∀a,Lv w a=Lv h a):Fb s h w t:=λa d f=>⟨P,by grind⟩
theorem ZG{z:Type}{d:z->C _}{a:D}(x:∀o,(d o).l=a){y:F}{E:C z}{t:Bz}(f:AF h y d a E)(S:Tg s y t){e:D}{o:z}(v:E[e]? =A o){G:z}{H:F}(Q:H.I=d G)(J:Ct (d G)=L):∃b w,AZ a [y,.n e]=A (.p b (e*a))/\(∀f,f<a->h.AA b (e*a+f)=(d o)[f]?)/\h.AU b (e*a) a=A (d o)/\A1 a h [.p b (e*a),H]=A (Ax,w)/\AF w y d a (E.set e G)/\Fb s h w t:=by
 let⟨b,l⟩:=Dm x f v
 let⟨I,R⟩:=l.set x f v Q J
 exact⟨b,_,l.ia,λf M=>l.AA x v M,l.AU x v,I,R,SJ (S b l.nb) (λT N=>by rw[AY,Ad N]) P⟩
section
variable{w:G} {t:Bz} (u:Dt s h i p c g j n m q r) (k:Fb s h w t)
include u k
theorem Dt.kc(a:t≠.Bw i):w.N p=h.N p/\Lv w p:=k p u.lv (by rw[u.Ci];grind)
theorem Dt.kp(e:t≠.Ap i):AF w g M.c 2 c.Ap:=u.Ap.Av λa d b=>k a d (by rw[u.FS a b];grind)
theorem Dt.ko(e:t≠.AB i):AF w j (EX q) 1 (List.range c.AB.l):=u.AB.Av λa d b=>k a d (by rw[u.JX a b];grind)
theorem Dt.kf(e:t≠.AI i):AF w n Bq 1 c.AI:=u.AI.Av λa d b=>k a d (by rw[u.FR a b];grind)
theorem Dt.kg(e:t≠.A5 i):AF w m (EX r) 1 (List.range c.A5.l):=u.A5.Av λa d b=>k a d (by rw[u.JW a b];grind)
theorem Dt.kx(a:D)(b:C _)(d:c.AB[a]? =A b)(o:t≠.Aw i a):AF w (q a) M.c 2 b/\Tg s (q a) (.Aw i a):=⟨(u.Aw a b d).1.Av λe l f=>k e l (by rw[(u.Aw a b d).2 e f];grind),(u.Aw a b d).2⟩
theorem Dt.ky(a:D)(b:C _)(d:c.A5[a]? =A b)(o:t≠.BS i a):AF w (r a) BC.c 3 b/\Tg s (r a) (.BS i a):=⟨(u.BS a b d).1.Av λe l f=>k e l (by rw[(u.BS a b d).2 e f];grind),(u.BS a b d).2⟩
end
theorem Dt.ab(u:Dt s h i p c g j n m q r){a:D}{v:M}(H:c.Ap[a]? =A v)(d:M):∃b w,AZ 2 [g,.n a]=A (.p b (a*2))/\h.AA b (a*2)=A (.i .u8 v.Ai)/\h.AU b (a*2) 2=A (M.c v)/\A1 2 h [.p b (a*2),.S (M.c d)]=A (Ax,w)/\Dt s w i p {c with Ap:=c.Ap.set a d} g j n m q r/\Fb s h w (.Ap i):=by
 let⟨b,w,x,E,F,G,I,k⟩:=ZG (d:=M.c) (λ_=>B) u.Ap u.FS H (G:=d) (H:=.S (M.c d)) B B
 exact⟨b,_,x,E 0 (by grind),F,G,⟨(u.kc k (by simp)).1.t u.N,(u.kc k (by simp)).2,u.Ci,I,u.FS,u.ko k (by simp),u.JX,λl o e=>u.kx k l o e (by simp),u.kf k (by simp),u.FR,u.kg k (by simp),u.JW,λl o e=>u.ky k l o e (by simp)⟩,k⟩
theorem Dt.eu(u:Dt s h i p c g j n m q r){a:D}{G:K}(E:c.AI[a]? =A G)(d:K):∃b w,AZ 1 [n,.n a]=A (.p b (a*1))/\A1 1 h [.p b (a*1),.n d]=A (Ax,w)/\Dt s w i p {c with AI:=c.AI.set a d} g j n m q r/\Fb s h w (.AI i):=by
 let⟨b,w,v,_,_,x,F,k⟩:=ZG (d:=Bq) (λ_=>B) u.AI u.FR E (G:=d) (H:=.n d) B B
 exact⟨b,w,v,x,⟨(u.kc k (by simp)).1.t u.N,(u.kc k (by simp)).2,u.Ci,u.kp k (by simp),u.FS,u.ko k (by simp),u.JX,λl o e=>u.kx k l o e (by simp),F,u.FR,u.kg k (by simp),u.JW,λl o e=>u.ky k l o e (by simp)⟩,k⟩
theorem Dt.Q9(u:Dt s h i p c g j n m q r){a b:D}{v:C M}{J:M}(l:c.AB[a]? =A v)(S:v[b]? =A J)(d:M):∃E x w,AZ 1 [j,.n a]=A (.p E (a*1))/\AW h [.p E (a*1)]=A (q a)/\AZ 2 [q a,.n b]=A (.p x (b*2))/\h.AU x (b*2) 2=A (M.c J)/\A1 2 h [.p x (b*2),.S (M.c d)]=A (Ax,w)/\Dt s w i p (c.Aw a b d) g j n m q r/\Fb s h w (.Aw i a):=by
 have G:=Ga (Aid.1 l).1;let⟨E,F⟩:=Dm (f:=EX q) (λ_=>B) u.AB G
 let⟨x,w,P,_,Q,R,V,k⟩:=ZG (d:=M.c) (λ_=>B) (u.Aw a v l).1 (u.Aw a v l).2 S (G:=d) (H:=.S (M.c d)) B B
 have H:(c.Aw a b d).AB=c.AB.set a (v.set b d):=UZ l b d;refine⟨E,x,w,F.ia,F.AA (f:=EX q) (λ_=>B) G (b:=0) (by grind),P,Q,R,⟨(u.kc k (by simp)).1.t u.N,(u.kc k (by simp)).2,u.Ci,u.kp k (by simp),u.FS,by rw[H,Aiv];exact u.ko k (by simp),u.JX,λI U e=> ?_,u.kf k (by simp),u.FR,u.kg k (by simp),u.JW,λa T e=>u.ky k a T e (by simp)⟩,k⟩;rw[H]at e;rcases IM l e with⟨rfl,rfl⟩|⟨W,e⟩;.exact⟨V,(u.Aw I v l).2⟩
 .exact u.kx k I U e (by grind)
theorem Dt.Aed(u:Dt s h i p c g j n m q r){a b:D}{v:C BC}{F:BC}(l:c.A5[a]? =A v)(S:v[b]? =A F)(x:BC):∃E d w,AZ 1 [m,.n a]=A (.p E (a*1))/\AW h [.p E (a*1)]=A (r a)/\AZ 3 [r a,.n b]=A (.p d (b*3))/\h.AU d (b*3) 3=A (BC.c F)/\h.AA d (b*3+2)=A (.b F.is)/\A1 3 h [.p d (b*3),.S (BC.c x)]=A (Ax,w)/\Dt s w i p {c with A5:=C5 c.A5 a b x} g j n m q r/\Fb s h w (.BS i a):=by
 have H:=Ga (Aid.1 l).1;let⟨E,G⟩:=Dm (f:=EX r) (λ_=>B) u.A5 H
 let⟨d,w,M,P,Q,R,V,k⟩:=ZG (d:=BC.c) (λ_=>B) (u.BS a v l).1 (u.BS a v l).2 S (G:=x) (H:=.S (BC.c x)) B B
 have I:=UZ l b x;refine⟨E,d,w,G.ia,G.AA (f:=EX r) (λ_=>B) H (b:=0) (by grind),M,Q,P 2 (by grind),R,⟨(u.kc k (by simp)).1.t u.N,(u.kc k (by simp)).2,u.Ci,u.kp k (by simp),u.FS,u.ko k (by simp),u.JX,λa T e=>u.kx k a T e (by simp),u.kf k (by simp),u.FR,by rw[I,Aiv];exact u.kg k (by simp),u.JW,λJ U e=> ?_⟩,k⟩;rw[I]at e;rcases IM l e with⟨rfl,rfl⟩|⟨W,e⟩;.exact⟨V,(u.BS J v l).2⟩
 .exact u.ky k J U e (by grind)
theorem Dt.S2(u:Dt s h i p c g j n m q r)(a:K):∃w,A1 1 h [.p p 7,.n a]=A (Ax,w)/\Dt s w i p {c with next:=a} g j n m q r/\Fb s h w (.Bw i):=by have k:Fb s h (h.set p (.I 9 (DJ 7 [.n a] [.n c.A4,.n c.AN,.n c.Ao,.n c.As,g,j,n,.n c.next,m]))) (.Bw i):=SJ u.Ci (λl f=>by rw[AY,Ad f]) P;exact⟨_,G9 (d:=7) (a:=.n a) u.N (by omega) (by omega) B B,⟨by rw[AY,Af B];rfl,by rw[M3];exact u.lv,u.Ci,u.kp k (by simp),u.FS,u.ko k (by simp),u.JX,λd e b=>u.kx k d e b (by simp),u.kf k (by simp),u.FR,u.kg k (by simp),u.JW,λd e b=>u.ky k d e b (by simp)⟩,k⟩
end
theorem EU.OD{s:Aa->Bz}{h w:G}{E:C _}{y:C BL}{k:D}{l:Aa}{b:Ah}{d:Ly}(a:EU s h E y k l b d){i:D}{c o:AP}{t:Bz}(H:b.T[i]? =A c)(f:t.of i)(e:Fb s h w t)(R:Dt s w i (d.pc i) o (d.pv i) (d.ov i) (d.fv i) (d.gv i) (d.og i) (d.gg i)):EU s w E y k l (b.AM i o) d where
 N:=(e l a.lv (by rw[a.Ci];intro b;subst b;exact f)).1.t a.N
 lv:=(e l a.lv (by rw[a.Ci];intro b;subst b;exact f)).2
 Ci:=a.Ci
 Bu:=(e _ a.Hj (by rw[a.Gw];intro b;subst b;exact f)).1.t a.Bu
 Hj:=(e _ a.Hj (by rw[a.Gw];intro b;subst b;exact f)).2
 Gw:=a.Gw
 T:=by show AF _ _ _ 1 (List.range (b.T.set i o).l);rw[Aiv];exact a.T.Av λp x P=>e p x (by rw[a.IS p P];intro b;subst b;exact f)
 IS:=a.IS
 Ae:=a.Ae.Av λp x I=>e p x (by rw[a.IT p I];intro b;subst b;exact f)
 IT:=a.IT
 Bw:=λM F v=>by
  rcases IM H v with⟨rfl,rfl⟩|⟨S,v⟩;.grind
  .exact(a.Bw M F v).Av λQ J z=>by
    have:=e Q J (by intro b;rw[b]at z;cases t<;>simp only[Bz.of]at f z<;>grind)
    grind
structure CW where
 l:C Ab
 es:C BL
 k:D
 x:Aa
def Cn(a:CW)(h:G)(e:Ah)(f:D->Aa)(d:Aa->Prop):Prop:=∃s b,EU s h a.l a.es a.k a.x e b/\b.pc=f/\∀p,d p->Lv h p/\s p=.DK
theorem EU.UW{s x:Aa->Bz}{h w:G}{o:C _}{f:C BL}{k:D}{d:Aa}{e:Ah}{y:Ly}(a:EU s h o f k d e y)(b:∀p,Lv h p->w.N p=h.N p/\Lv w p/\x p=s p):EU x w o f k d e y where
 N:=(b d a.lv).1.t a.N
 lv:=(b d a.lv).2.1
 Ci:=(b d a.lv).2.2.t a.Ci
 Bu:=(b _ a.Hj).1.t a.Bu
 Hj:=(b _ a.Hj).2.1
 Gw:=(b _ a.Hj).2.2.t a.Gw
 T:=a.T.Av P
 IS:=λp v=>(b p (a.T.Dh v)).2.2.t (a.IS p v)
 Ae:=a.Ae.Av P
 IT:=λp l=>(b p (a.Ae.lv l)).2.2.t (a.IT p l)
 Bw:=λi c z=>(a.Bw i c z).Av P
theorem Cn.ext{b:CW}{h w:G}{d:Ah}{e:D->Aa}{a:Aa->Prop}(l:Cn b h d e a)(f:AR h w):Cn b w d e a:=by
 let⟨s,x,o,v,y⟩:=l
 exact⟨s,x,o.ext f,v,P⟩
def Fo(a:Aa->Prop)(h w:G):Aa->Prop:=λp=>a p\/(¬Lv h p/\Lv w p)
open Classical in
theorem Cn.V {d:CW} {h w:G} {e:Ah} {f:D->Aa} {b:Aa->Prop} (l:Cn d h e f b) (y:AR h w):Cn d w e f (Fo b h w):=by
 let⟨s,x,o,v,z⟩:=l
 refine⟨λp=>if Lv h p then s p else .DK,x,o.UW P,v,λp a=> ?_⟩;rcases a with a|a<;>grind
theorem Cn.sub{d:CW}{h:G}{e:Ah}{f:D->Aa}{a b:Aa->Prop}(l:Cn d h e f a)(k:∀p,b p->a p):Cn d h e f b:=by
 let⟨s,x,o,v,y⟩:=l
 exact⟨s,x,o,v,P⟩
def BD(a:Aa->Prop)(h w:G):Prop:=∀p,a p->w.N p=h.N p
theorem BD.refl(a:Aa->Prop)(h:G):BD a h h:=λ_ _=>B
theorem BD.AQ{a:Aa->Prop}{b d c:G}(h:BD a b d)(k:BD a d c):BD a b c:=λp e=>(k p e).t (h p e)
attribute [grind->] BD.AQ
attribute [grind=] BD Fo Fb
theorem Fb.FQ{u:Aa->Bz}{h c:G}{d:Bz}(f:Fb u h c d)(i:d≠.DK){b:Aa->Prop}(g:∀a,b a->Lv h a/\u a=.DK):(∀a,b a->Lv c a/\u a=.DK)/\BD b h c:=
 ⟨P,P⟩
section
variable{u:Aa->Bz} {h:G} {l:C Ab} {y:C BL} {k:D} {x:Aa} {e:Ah} {w:Ly}
theorem EU.Lk(g:EU u h l y k x e w){a:D}{i:AP}(j:e.T[a]? =A i):∃b,AZ 1 [w.cv,.n a]=A (.p b (a*1))/\h.AA b (a*1)=A (.p (w.pc a) 0):=by
 have d:=(Aid.1 j).1;let⟨b,c⟩:=Dm (f:=US w.pc) (w:=1) (λ_=>B) g.T (Ga d)
 exact⟨b,c.ia,by exact(c.AA (f:=US w.pc) (λ_=>B) (Ga d) (b:=0) (by grind))⟩
theorem EU.Z_(a:EU u h l y k x e w){f:G}{j g:K}(n:f.N x=A (.I 6 [Z Ab.c l,.m w.r,w.cv,w.mv,.n j,.n g]))(r:Lv f x)(c:Fb u h f .E2):EU u f l y k x ⟨e.T,e.Ae,j,g⟩ w where
 N:=n
 lv:=r
 Ci:=a.Ci
 Bu:=(c _ a.Hj (by rw[a.Gw];grind)).1.t a.Bu
 Hj:=(c _ a.Hj (by rw[a.Gw];grind)).2
 Gw:=a.Gw
 T:=a.T.Av λb d s=>c b d (by rw[a.IS b s];grind)
 IS:=a.IS
 Ae:=a.Ae.Av λb d p=>c b d (by rw[a.IT b p];grind)
 IT:=a.IT
 Bw:=λq m o=>(a.Bw q m o).Av λb d i=>by have:=c b d (by intro e;rw[e]at i;exact i);grind
theorem EU.MH(b:EU u h l y k x e w)(a:K):∃c,A1 1 h [.p x 5,.n a]=A (Ax,c)/\EU u c l y k x ⟨e.T,e.Ae,e.round,a⟩ w/\Fb u h c .E2:=by have f:=G9 (d:=5) (a:=.n a) b.N (by omega) (by omega) B B;have g:DJ 5 [.n a] [Z Ab.c l,.m w.r,w.cv,w.mv,.n e.round,.n e.Aq]=[Z Ab.c l,.m w.r,w.cv,w.mv,.n e.round,.n a]:=B;rw[g]at f;have d:Fb u h (h.set x (.I 6 [Z Ab.c l,.m w.r,w.cv,w.mv,.n e.round,.n a])) .E2:=SJ b.Ci (λj i=>by rw[AY,Ad i]) P;exact⟨_,f,b.Z_ (by rw[AY,Af B]) (by rw[M3];exact b.lv) d,d⟩
theorem EU.ac(b:EU u h l y k x e w)(a:K):∃c,A1 1 h [.p x 4,.n a]=A (Ax,c)/\EU u c l y k x ⟨e.T,e.Ae,a,e.Aq⟩ w/\Fb u h c .E2:=by have f:=G9 (d:=4) (a:=.n a) b.N (by omega) (by omega) B B;have g:DJ 4 [.n a] [Z Ab.c l,.m w.r,w.cv,w.mv,.n e.round,.n e.Aq]=[Z Ab.c l,.m w.r,w.cv,w.mv,.n a,.n e.Aq]:=B;rw[g]at f;have d:Fb u h (h.set x (.I 6 [Z Ab.c l,.m w.r,w.cv,w.mv,.n a,.n e.Aq])) .E2:=SJ b.Ci (λj i=>by rw[AY,Ad i]) P;exact⟨_,f,b.Z_ (by rw[AY,Af B]) (by rw[M3];exact b.lv) d,d⟩
end
theorem DM{e:Ah}{b:D}{a:AP}(h:e.T[b]? =A a):e.at b=a:=by unfold Ah.at;grind
def F1(e:Ah)(c d k:D):Prop:=∃a b f,e.T[c]? =A a/\a.AB[d]? =A b/\b[k]? =A f
theorem F1.Aw{e:Ah}{a b k:D}(h:F1 e a b k)(g j m:D)(o:M):F1 (e.Aw g j m o) a b k:=by
 let⟨z,n,t,c,r,d⟩:=h
 unfold Ah.Aw Ah.AM F1;by_cases p:g=a
 .subst p;have f:=(Aid.1 c).1;rw[DM c];by_cases q:j=b
  .subst q;have E:=(Aid.1 d).1;let⟨v,s⟩:=Bo (b:=n.set m o) (a:=k) (by grind)
   exact⟨_,_,v,AiF f,by unfold AP.Aw;rw[UZ r];grind,s⟩
  .refine⟨_,n,t,AiF f,?_,d⟩;unfold AP.Aw C5;grind
 grind
theorem Cn.Aw{n:CW}{h:G}{e:Ah}{j:D->Aa}{m:Aa->Prop}(F:Cn n h e j m){a b k:D}(R:F1 e a b k)(o:M):
  ∃s g v r z f c,h.AA n.x 2=A s/\AZ 1 [s,.n a]=A (.p g (a*1))/\h.AA g (a*1)=A (.p (j a) 0)/\h.AA (j a) 5=A v/\AZ 1 [v,.n b]=A (.p r (b*1))/\h.AA r (b*1)=A z/\AZ 2 [z,.n k]=A (.p f (k*2))/\
   A1 2 h [.p f (k*2),.S (M.c o)]=A (Ax,c)/\Cn n c (e.Aw a b k o) j m/\BD m h c:=by
 obtain⟨u,w,d,rfl,Q⟩:=F
 let⟨I,xb,xc,i,J,N⟩:=R
 let⟨g,T,X⟩:=d.Lk i
 have p:=d.Bw a I i
 let⟨H,f,c,S,W,U,_,Y,E,q⟩:=p.Q9 J N o
 have xa:=d.OD i (t:=.Aw a b) B q E
 have Z:=q.FQ (by grind) Q
 refine⟨w.cv,g,w.ov a,H,w.og a b,f,c,AJ d.N 2,T,X,AJ p.N 5,S,W,U,Y,⟨u,w,?_,B,P⟩,P⟩
 unfold Ah.Aw;rw[DM i];grind
def Ju(e:Ah)(c:BM):Prop:=∃a b:D,c.Cq=((1000*a+b:D):K)/\b<1000/\a<1000/\F1 e a b 0
theorem Ju.Gx{e:Ah}{a:BM}(h:Ju e a)(j:BM):Ju (GW e j) a:=by
 let⟨g,i,b,c,d,f⟩:=h
 exact⟨g,i,b,c,d,f.Aw _ _ _ _⟩
theorem Ju.Ae0{e:Ah}{b:BM}(h:Ju e b):∀a:C BM,Ju (a.foldl GW e) b:=λa=>by
 induction a generalizing e with
 |nil=>grind
 |cons x a c=>exact c (h.Gx x)
theorem al{e:Ah}{b:BM}{c a:D}(h:b.Cq=(1000*c+a:D))(d:a<1000):GW e b=e.Aw c a 0 b.v:=by unfold GW;grind
theorem lq{a b:D}(c:a<1000)(d:b<1000):A7 .quo [.n (1000*a+b:D),.n 1000]=A (.n a):=by rw[ZQ _ _ (by unfold DO;omega) (by grind),AkD (by omega)];grind
theorem lM{b a:D}(c:b<1000)(d:a<1000):A7 .rem [.n (1000*b+a:D),.n 1000]=A (.n a):=by rw[Yh .n _ (by grind),AkE (by omega)];grind
theorem sv{f c:Type}{a:c->f->c}{d:c}{l:C _}{b:D}{x:f}(h:l[b]? =A x):(l.t (b+1)).foldl a d=a ((l.t b).foldl a d) x:=by rw[<-Gv h,List.foldl_append];rfl
theorem tg{d:CW}{h:G}{e:Ah}{z:D->Aa}{g:Aa->Prop}(Y:Cn d h e z g){o:F}{a:C BM}(W:AF h o BM.c 3 a)(xn:∀m,¬AE o m->g m)(xG:a.l<1000000)(xq:∀c∈a,Ju e c):∃b,W9 (Ar 123) [.p d.x 0,o] h=A (.AC [],b)/\Cn d b (a.foldl GW e) z g/\BD g h b:=by
 let⟨_,T,r,J,xb⟩:=Ez (h:=a.l) (f:=λj _ h=>jj W9 123 1 [.n a.l,o,.p d.x 0,.n j] h) (g:=λj _ b=>Cn d b ((a.t j).foldl GW e) z g/\BD g h b)
  (λj _ b V Z=>by
   let⟨q,xa⟩:=Z
   let⟨c,p⟩:=Bo V
   let⟨xc,xd,xm,v,U,xj⟩:=(xq c (Ail p)).Ae0 (a.t j)
   have xx:=Dx V;have xp:=W.Av λm xk xo=>⟨xa m (xn m xo),by let⟨_,_,_,_,xh⟩:=q;grind⟩;let⟨xw,N⟩:=Dm (f:=BM.c) (w:=3) (λ_=>B) xp p
   have xM:=N.AU (f:=BM.c) (λ_=>B) p;let⟨E,t,xl,xi,X,S,xH,xI⟩:=box b (.I 3 (BM.c c))
   have xN:A1 3 (b.V (.I 3 [.n 0,.i .u8 0,.n 0])) [.p E 0,.S (BM.c c)]=A (Ax,t):=by rw[<-xl,<-xi];exact FL B B
   let⟨xy,xu,xJ,xv,xr,xe,xg,xz,xA,xB,xC,xD,xE,R,xF,xs,xt⟩:=(q.ext X).Aw xj c.v
   have xK:t.AA E 0=A (.n (1000*xc+xd:D)):=by rw[AJ S];show A (F.n c.Cq)=_;grind
   have xL:t.AU E 1 2=A (M.c c.v):=by rw[EA S,Af (by omega),Ad (by omega)];rfl
   have R:AZ 2 [xr,.n 0]=A (.p xe 0):=R;refine⟨(),xg,?_,by rw[sv p,al xm v];grind,λm xk=>by
    let⟨_,_,_,_,xh⟩:=q
    grind⟩
   rw[V6.2.1];simp only[QY,V6.2.2.1,H N.ia,H (lq U v),H (lM U v),V6.2.2.2,H (BF (a:=j) (by omega)), *])
  (b:=()) (a:=h) ⟨Y,P⟩
 have r:jj W9 123 1 [.n a.l,o,.p d.x 0,.n 0] h=jj W9 123 1 [.n a.l,o,.p d.x 0,.n a.l] T:=r;have xf:=Dz a.l;rw[HV]at J;refine⟨T,Bd B B ?_,J,xb⟩;rw[V6.1];simp only[↓Q,↓H (C4 W)];rw[r,V6.2.1];simp only[↓Q,↓QT,Aic,xf]
theorem hu{g:Type}(c d e b:F)(f:C F)(a:F->Aj g):(Ca 3 [.AC (c::d::e::b::f)]).b a=a b:=rfl
variable{c:D}
def eB{b:G}{d:Aa}{a:F}(f:a.I=[a]):A1 1 b [.p d c,.S [a]]=A1 1 b [.p d c,a]:=by show An (An (Bb (BK [a]) 1) (Ct [a]) Ac) (match b.EY d c 1 [a]with|some e=>A (Ax,e)|none=>O) O=An (An (Bb (BK a.I) 1) (Ct a.I) Ac) (match b.EY d c 1 a.I with|some e=>A (Ax,e)|none=>O) O;grind
open Classical in
def Cn.aa{b:CW}{h g:G}{d:Ah}{E:D->Aa}{q:Aa->Prop}(I:Cn b h d E q)(w:AR h g){f:F}{m p:D->F}{n:C AG}(s:Dn g f m p n)(W:∀a,Lv h a->¬Ck f m p n.l a):∃i,A1 1 g [.p b.x 3,.S [f]]=A (Ax,i)/\Cn b i ⟨d.T,n,d.round,d.Aq⟩ E (λa=>q a\/(¬Lv h a/\Lv g a/\¬Ck f m p n.l a))/\(∀a,a≠b.x->i.N a=g.N a)/\(∀a,Lv i a=Lv g a)/\Lv h b.x/\∀a,q a->a≠b.x:=by
 obtain⟨H,e,c,rfl,Q⟩:=I;have x:=G9 (d:=3) ((w.N c.lv).t c.N) (by omega) (by omega) (CS s.o).1 (CS s.o).2;have M:DJ 3 [f] [Z Ab.c b.l,.m e.r,e.cv,e.mv,.n d.round,.n d.Aq]=[Z Ab.c b.l,.m e.r,e.cv,f,.n d.round,.n d.Aq]:=B;rw[M]at x;have u:∀a,a≠b.x->(g.set b.x (.I 6 [Z Ab.c b.l,.m e.r,e.cv,f,.n d.round,.n d.Aq])).N a=g.N a:=λa j=>by rw[AY,Ad j]
 have y:(g.set b.x (.I 6 [Z Ab.c b.l,.m e.r,e.cv,f,.n d.round,.n d.Aq])).N b.x=A (.I 6 [Z Ab.c b.l,.m e.r,e.cv,f,.n d.round,.n d.Aq]):=by simp
 have v:∀a,Lv (g.set b.x (.I 6 [Z Ab.c b.l,.m e.r,e.cv,f,.n d.round,.n d.Aq])) a=Lv g a:=by grind
 generalize g.set b.x (.I 6 [Z Ab.c b.l,.m e.r,e.cv,f,.n d.round,.n d.Aq])=i at x u y v;have X:∀a,q a->a≠b.x:=λa j t=>by have:=(Q a j).2;rw[t,c.Ci]at this;grind
 have r:∀k,Lv h k->H k≠.E2->i.N k=h.N k/\Lv i k:=λk Y l=>⟨(u k (λt=>l (by rw[t];exact c.Ci))).t P,by grind⟩;refine⟨i,by rw[eB (CS s.o).1];grind,⟨λa=>if Lv h a then H a else if Ck f m p n.l a then .Ae else .DK,{e with mv:=f,cs:=m,ws:=p},?_,B,?_⟩,u,v,c.lv,X⟩
 .exact{
  N:=y
  lv:=by rw[v];exact w.lv c.lv
  Ci:=(Af c.lv).t c.Ci
  Bu:=(r e.r c.Hj (by rw[c.Gw];grind)).1.t c.Bu
  Hj:=(r e.r c.Hj (by rw[c.Gw];grind)).2
  Gw:=(Af c.Hj).t c.Gw
  T:=c.T.Av λa j l=>r a j (by rw[c.IS a l];grind)
  IS:=λa l=>(Af (c.T.Dh l)).t (c.IS a l)
  Ae:=s.Av λa j S=>⟨u a (λt=>W b.x c.lv (by grind)),by grind⟩
  IT:=λa S=>P
  Bw:=λU J R=>(c.Bw U J R).Av λa j z=>by have:=r a j (by intro d;rw[d]at z;exact z);grind}
 grind
def Cn.Dy{e:CW}{b:G}{f:Ah}{g:D->Aa}{a:Aa->Prop}(d:Cn e b f g a){c:Aa}(h:a c):Lv b c:=by obtain⟨_⟩:=d;grind
def iM{s:CW}{e:G}{b:Ah}{xv:D->Aa}{I:Aa->Prop}(J:Cn s e b xv I)(xE:Gg b.Ae)(a:EW)(x2:a.op=1\/a.op=2\/a.op=3\/a.op=4)(x5:∀xi∈a.Dj,II xi b.Ae.l=L)(x1:(BA b.Ae a).Gx.l<1000000)(yf:∀xh∈(BA b.Ae a).Gx,Ju b xh):∃T,W9 (Ar 74) [.p s.x 0,.S a.c8] e=A (.AC [.S (M.c (DE b a).2.1),.n (DE b a).2.2],T)/\Cn s T (DE b a).1 xv I/\BD I e T:=by
 have xF:=J;obtain⟨yE,xi,xJ,rfl,xX⟩:=xF;let⟨xt,U,x3,xZ,xB,xQ,yb,yB⟩:=box e (.I 8 a.c8)
 let⟨xu,xp,x4,x0,xl,xR,yc,ye⟩:=box U (.I 2 [.i .u8 0,.n 0])
 have xz:∀(d:F->G->R),bl (.p e.next 0) (e.V (.I (BK (F.I (.S a.c8))) (F.I (.S a.c8)))) d=d (.p xt 0) U:=Em e (.I 8 a.c8) x3 xZ;have xA:=J2 U x4 x0;have x:=xB.AQ xl;have xn:=xJ.ext x;have xy:xp.AU s.x 3 1=A [xi.mv]:=by rw[EA xn.N,Af (by omega),Ad (by omega)];rfl
 have xx:xp.AU xt 0 8=A a.c8:=B2 ((xl.N yb).t xQ);have u:=tf xE xn.Ae a x2 x5;by_cases N:(BA b.Ae a).e=0
 .let⟨yq,xh,yt,yG,c,xb,y,xm,yg,yu,yv⟩:=u.2 N
  let⟨j,g,Z,X,r,S,xc,xd⟩:=box c (.I 1 [.sn])
  let⟨f,xW,xa,Y,l,xT,yd,xr⟩:=box g (.I 2 [.i .u8 0,.n 0])
  have xj:∀(d:F->G->R),bl (.p c.next 0) (c.V (.I 1 [.sn])) d=d (.p j 0) g:=Em c (.I 1 [.sn]) Z X;have xk:=J2 g xa Y;have w:j≠f:=by grind
  let⟨V,xe,yk,i⟩:=Q_ ((l.N xc).t S) (CS xm.o).2
  let⟨n,xf,xw,m⟩:=Ha (b:=V) (a:=f) (f:=[.i .u8 0,.n 0]) (by rw[i,AY,Ad w.symm];grind) (BA b.Ae a).v
  have E:=r.AQ l;have k:AR c n:=by rw[m,i];exact(E.G7 xd _).G7 P _
  have yo:n.AU j 0 1=A [yq]:=B2 (by rw[m,AY,Ad w,i,AY,Af B]);have p:=y.AQ k;have xC:=x.AQ p;have xI:=xm.ext k;let⟨t,xg,xG,yD,yz,yA,yC⟩:=J.aa xC xI P
  have yh:AF t xh BM.c 3 (BA b.Ae a).Gx:=(yg.ext k).Av P;let⟨W,ya,xH,ys⟩:=tg xG yh P x1 (λyn x6=>by
   let⟨x8,x9,xL,xM,xN,xO⟩:=yf yn x6
   exact⟨x8,x9,xL,xM,xN,xO⟩)
  have yw:n.N f=A (.I 2 (M.c (BA b.Ae a).v)):=by rw[m,AY,Af B]
  have xU:W.N f=A (.I 2 (M.c (BA b.Ae a).v)):=by grind
  have xS:W.N xu=A (.I 2 [.i .u8 0,.n 0]):=by grind
  have yp:W.AU f 0 2=A (M.c (BA b.Ae a).v):=B2 xU;let⟨xV,ym,yj,xo⟩:=Ha xS (BA b.Ae a).v
  let⟨yl,yr,xK,x7,xY⟩:=xH
  have o:DE b a=((BA b.Ae a).Gx.foldl GW ⟨b.T,(BA b.Ae a).m,b.round,b.Aq⟩,(BA b.Ae a).v,0):=by unfold DE;grind
  have yF:=(xY xu P).2;refine⟨xV,Bd B B ?_,⟨yl,yr,?_,x7,P⟩,λxs xq=> ?_⟩;.rw[o,c5.1];simp only[↓xz,↓xA,↓xj,↓xk,↓Q,↓hu,↓QT,Aic,↓H xy,↓H xx,↓H xb,↓H xe,↓H xf];rw[c5.2];simp only[QY,yo,xg,ya,yp,ym,yj]
  .rw[o,xo];exact xK.Av λxs xq yx=>⟨by rw[AY,Ad P],by grind⟩
  .have yy:=(xX xs xq).1;rw[xo,AY,Ad (λb=>ye (by grind))];grind
 .let⟨c,xb,y⟩:=u.1 N
  let⟨j,g,Z,X,r,S,xc,xd⟩:=box c (.I 1 [.sn])
  let⟨f,xW,xa,Y,l,xT,yd,xr⟩:=box g (.I 2 [.i .u8 0,.n 0])
  have xj:∀(d:F->G->R),bl (.p c.next 0) (c.V (.I 1 [.sn])) d=d (.p j 0) g:=Em c (.I 1 [.sn]) Z X;have xk:=J2 g xa Y;have w:j≠f:=by grind
  let⟨V,xe,yk,i⟩:=Q_ ((l.N xc).t S) (b:=.sn) B
  let⟨n,xf,xw,m⟩:=Ha (b:=V) (a:=f) (f:=[.i .u8 0,.n 0]) (by rw[i,AY,Ad w.symm];grind) AK
  have E:=r.AQ l;have k:AR c n:=by rw[m,i];exact(E.G7 xd _).G7 (λu=>xr (r.lv u)) _
  have p:=y.AQ k;let⟨t,xg,yi,xP⟩:=Ha ((p.N yc).t xR) AK
  have xD:AR e t:=by rw[xP];exact(x.AQ p).G7 P _
  have o:DE b a=(b,AK,(BA b.Ae a).e):=by unfold DE;grind
  refine⟨t,Bd B B ?_,by rw[o];exact J.ext xD,P⟩;rw[o,c5.1];simp only[↓xz,↓xA,↓xj,↓xk,↓Q,↓hu,↓QT,Aic,↓H xy,↓H xx,↓H xb,↓H xe,↓H xf,N,↓H xw,↓H xg,↓H yi]
theorem YC{f k:Type}{d e:f->C k}:∀(a:C f),(∀b∈a,d b=e b)->a.f d=a.f e
 |[],_=>rfl
 |b::a,h=>by rw[AiV,AiV,h b (Ai0 ..),YC a λj g=>h j (Ai1 _ g)]
theorem AdE(a:D):GG [.n 0,.b Ac,.b Ac] a=(Bv a E3).f BC.c:=by
 induction a with
 |zero=>rfl
 |succ a b=>show EK [.n 0,.b Ac,.b Ac] (GG [.n 0,.b Ac,.b Ac] a)=_;rw[Lz,b,AjC,AiV];rfl
theorem Aa1(b:Aa)(a:D)(d:a<=1000000):Gi [(.n 0),(.b Ac),(.b Ac)] 3 16 b [.n a,.n a]=A (.I (a*3) ((Bv a E3).f BC.c),.Z b 0 a (a+1) 3):=by show An _ _ O=_;rw[(Air Om:Co a a=L),(Air (by show a*16<=100000000000;omega):Co _ Hs=L),AdE];rfl
theorem Acb(b:G)(a:D):AF (b.V (.I (a*3) ((Bv a E3).f BC.c))) (.Z b.next 0 a (a+1) 3) BC.c 3 (Bv a E3):=by refine .j ⟨b.next,a+1,by grind,P,by grind,P⟩
theorem AdF(a:D):GG [.n 0] a=(Bv a 0).f Bq:=by
 induction a with
 |zero=>rfl
 |succ a b=>show EK [.n 0] (GG [.n 0] a)=_;rw[Lz,b,AjC,AiV];rfl
theorem du(b:Aa)(a:D)(d:a<=1000000):Gi [(.n 0)] 1 8 b [.n a,.n a]=A (.I (a*1) ((Bv a 0).f Bq),.Z b 0 a (a+1) 1):=by show An _ _ O=_;rw[(Air Om:Co a a=L),(Air (by show a*8<=100000000000;omega):Co _ Hs=L),AdF];rfl
theorem dU(b:G)(a:D):AF (b.V (.I (a*1) ((Bv a 0).f Bq))) (.Z b.next 0 a (a+1) 1) Bq 1 (Bv a 0):=by refine .j ⟨b.next,a+1,by grind,P,by grind,P⟩
structure NW{j:Type}(w:j->C F)(x:D)(f:Aa->Bz)(h:G)(v:Bz)(k:D->Bz)(g:F)(b:D->F)(d:C (C j)):Prop where
 o:AF h g (EX b) 1 (List.range d.l)
 t:Tg f g v
 r:∀(a:D) e,d[a]? =A e->AF h (b a) w x e/\Tg f (b a) (k a)
theorem NW.Av{P:Type}{H:P->C _}{N:D}{v J:Aa->Bz}{h y:G}{x:Bz}{w:D->Bz}{M:F}{I:D->F}{E:C _}(d:NW H N v h x w M I E)(f:∀a,Lv h a->(v a=x\/∃e,v a=w e)->y.N a=h.N a/\Lv y a/\J a=v a):NW H N J y x w M I E where
 o:=d.o.Av λa k b=>⟨(f a k (.i (d.t a b))).1,(f a k (.i (d.t a b))).2.1⟩
 t:=λa b=>(f a (d.o.Dh b) (.i (d.t a b))).2.2.t (d.t a b)
 r:=λe j g=>⟨(d.r e j g).1.Av λa k b=>⟨(f a k (.j ⟨e,(d.r e j g).2 a b⟩)).1,(f a k (.j ⟨e,(d.r e j g).2 a b⟩)).2.1⟩,λa b=>(f a ((d.r e j g).1.Dh b) (.j ⟨e,(d.r e j g).2 a b⟩)).2.2.t ((d.r e j g).2 a b)⟩
open Classical in
theorem NW.EK{Y:Type}{T:Y->C F}{X:D}{v:Aa->Bz}{h:G}{g:Bz}{E:D->Bz}{N:F}{I:D->F}{b:C (C Y)}(Q:NW T X v h g E N I b)(xy:∀d,E d≠g)(xx:∀d M,E d=E M->d=M)(xB:b.l<1000000){H:Ce}{e:F}{W:C Y}(xg:AF (h.V H) e T X W)(xj:∀a,¬AE e a->a=h.next)(xC:FX e=L)(xv:e.I=[e]):
  ∃R j xh,(∀(xa:F×G->Aj (F×G)),((CB 1 1 (h.V H).next [e]).b λp=>(Eo 1 24 (G.V (h.V H) p.1) [N,p.2]).b xa)=xa (R,j))/\NW T X xh j g E R (Cf I b.l e) (b++[W])/\
   (∀a,Lv h a->v a≠g->j.N a=h.N a/\Lv j a)/\(∀a,Lv h a->xh a=v a):=by
 have Z:AR h (h.V H):=AR.V _ _
 have xd:Lv (h.V H) h.next:=by grind
 have xe:=FO h
 generalize xz:h.V H=xm at Z xg xd
 generalize h.next=V at xj xd xe
 have xs:AF xm N (EX (Cf I b.l e)) 1 (List.range b.l):=by
  rcases(Q.o.ext Z)with M|⟨xk,xl,xo,xp,xq,xr⟩;.exact .i M
  .refine .j ⟨xk,xl,xo,xp,?_,xr⟩;rw[xq];congr 2;refine YC _ λd J=> ?_;have:=AiT.1 J;show[I d]=[Cf I b.l e d];rw[CQ (by omega)]
 let⟨R,j,M,xf,xw,xt⟩:=GS (f:=EX (Cf I b.l e)) (w:=1) (b:=b.l) (o:=e) (h:=24) (λ_=>B) (by unfold EX;rw[EH,EC];grind) (by unfold EX;rw[EH];grind) xs (EI (by grind))
 have xn:List.range b.l++[b.l]=List.range (b++[W]).l:=by rw[Aio,Ajg,Ajw]
 rw[xn]at xf
 have xu:∀a,Lv h a->v a≠g->AE N a:=λa U k=>Aih λS=>k (Q.t a S)
 have xb:∀a,Lv h a->v a≠g->j.N a=h.N a/\Lv j a:=P
 have xD:AE N V:=Aih λS=>xe (Q.o.Dh S)
 refine⟨R,j,λa=>if Lv h a then v a else if a=V then E b.l else g,by omega,?_,xb,P⟩
 have xi:∀a,Lv h a->(if Lv h a then v a else if a=V then E b.l else g)=v a:=by grind
 exact{
  o:=xf
  t:=λa k=>by grind
  r:=λd xc J=>by
   by_cases xA:d<b.l
   .have J:b[d]? =A xc:=by grind
    have:=Q.r d xc J;rw[CQ (by omega)];exact⟨this.1.Av λa U k=>xb a U (by rw[this.2 a k];grind),λa k=>(xi a P).t (this.2 a k)⟩
   .have:d=b.l:=by
     grind
    subst this
    rw[Ajx Om,AjK]at J
    cases J
    rw[EH]
    refine⟨xg.Av λa U k=> ?_,λa k=> ?_⟩<;>grind}
theorem OT{p:Aa}{e b g:D}:∀a,¬AE (.Z p 0 e b g) a->a=p:=λa f=>by
 by_cases d:p=a;.grind
 .exact A_ (Fe d) f
section
variable{n:Aa->Bz} {h:G} {i:D} {p:Aa} {c:AP} {q s u z:F} {l m:D->F}
theorem Dt.k2(g:Dt n h i p c q s u z l m){b:G}{e:Bz}{f:Ce}(o:∀a,Lv h a->n a≠e->b.N a=h.N a/\Lv b a):∀⦃a:Aa⦄⦃d:Bz⦄,Lv h a->n a=d->d≠e->d≠.Bw i->(b.set p f).N a=h.N a/\Lv (b.set p f) a:=by
 rintro a _ t rfl r k
 rw[AY,Ad λj=>k (by rw[j];exact g.Ci),M3]
 grind
theorem Dt.n3(d:Dt n h i p c q s u z l m){g:D}(xa:g<=1000)(W:c.AB.l<1000000):
  ∃S U j t E w,Gi [(.i .u8 0),(.n 0)] 2 16 h.next [.n g,.n g]=A (S,U)/\(∀(r:F×G->R),((CB 1 1 (h.V S).next [U]).b λp=>(Eo 1 24 (G.V (h.V S) p.1) [s,p.2]).b r)=r (j,t))/\A1 1 t [.p p 5,j]=A (Ax,E)/\
   Dt w E i p {c with AB:=c.AB++[Bv g AK]} q j u z (Cf l c.AB.l U) m/\(∀a,Lv h a->n a≠.AB i->a≠p->E.N a=h.N a/\Lv E a)/\∀a,Lv h a->w a=n a:=by
 let⟨j,t,w,X,J,r,k⟩:=NW.EK (H:=.I (g*2) ((Bv g AK).f M.c)) ⟨d.AB,d.JX,d.Aw⟩ nofun P W (UL h g) OT B B
 have T:=r p d.lv (by rw[d.Ci];nofun)
 have V:=G9 (d:=5) (a:=j) (T.1.t d.N) (by omega) (by omega) (CS J.o).1 (CS J.o).2
 have x:=d.k2 (f:=.I 9 (DJ 5 [j] [.n c.A4,.n c.AN,.n c.Ao,.n c.As,q,s,u,.n c.next,z])) r
 have Y:=(k p d.lv).t d.Ci
 have Q:=J.Av (J:=w) (y:=t.set p (.I 9 (DJ 5 [j] [.n c.A4,.n c.AN,.n c.Ao,.n c.As,q,s,u,.n c.next,z]))) λa f Z=>⟨by rw[AY,Ad P],by grind,B⟩
 refine⟨_,_,j,t,_,w,UB h.next g (by omega),X,V,⟨by rw[AY,Af B];rfl,by grind,Y,d.Ap.Av λa f e=>x f (d.FS a e) nofun nofun,λa e=>(k a (d.Ap.Dh e)).t (d.FS a e),Q.o,Q.t,Q.r,d.AI.Av λa f e=>x f (d.FR a e) nofun nofun,λa e=>(k a (d.AI.Dh e)).t (d.FR a e),d.A5.Av λa f e=>x f (d.JW a e) nofun nofun,λa e=>(k a (d.A5.Dh e)).t (d.JW a e),λH I y=>⟨(d.BS H I y).1.Av λa f e=>x f ((d.BS H I y).2 a e) nofun nofun,λa e=>(k a ((d.BS H I y).1.Dh e)).t ((d.BS H I y).2 a e)⟩⟩,λa f e T=> ?_,k⟩
 rw[AY,Ad T,M3];grind
theorem Dt.n2(d:Dt n h i p c q s u z l m){g:D}(Z:g<=1000)(V:c.A5.l<1000000):
  ∃Q T j t E w,Gi [(.n 0),(.b Ac),(.b Ac)] 3 16 h.next [.n g,.n g]=A (Q,T)/\(∀(r:F×G->R),((CB 1 1 (h.V Q).next [T]).b λp=>(Eo 1 24 (G.V (h.V Q) p.1) [z,p.2]).b r)=r (j,t))/\A1 1 t [.p p 8,j]=A (Ax,E)/\
   Dt w E i p {c with A5:=c.A5++[Bv g E3]} q s u j l (Cf m c.A5.l T)/\(∀a,Lv h a->n a≠.A5 i->a≠p->E.N a=h.N a/\Lv E a)/\∀a,Lv h a->w a=n a:=by
 let⟨j,t,w,W,J,r,k⟩:=NW.EK (H:=.I (g*3) ((Bv g E3).f BC.c)) ⟨d.A5,d.JW,d.BS⟩ nofun P V (Acb h g) OT B B
 have S:=r p d.lv (by rw[d.Ci];nofun)
 have U:=G9 (d:=8) (a:=j) (S.1.t d.N) (by omega) (by omega) (CS J.o).1 (CS J.o).2
 have x:=d.k2 (f:=.I 9 (DJ 8 [j] [.n c.A4,.n c.AN,.n c.Ao,.n c.As,q,s,u,.n c.next,z])) r
 have X:=(k p d.lv).t d.Ci
 have M:=J.Av (J:=w) (y:=t.set p (.I 9 (DJ 8 [j] [.n c.A4,.n c.AN,.n c.Ao,.n c.As,q,s,u,.n c.next,z]))) λa f Y=>⟨by rw[AY,Ad P],by grind,B⟩
 refine⟨_,_,j,t,_,w,Aa1 h.next g (by omega),W,U,⟨by rw[AY,Af B];rfl,by grind,X,d.Ap.Av λa f e=>x f (d.FS a e) nofun nofun,λa e=>(k a (d.Ap.Dh e)).t (d.FS a e),d.AB.Av λa f e=>x f (d.JX a e) nofun nofun,λa e=>(k a (d.AB.Dh e)).t (d.JX a e),λH I y=>⟨(d.Aw H I y).1.Av λa f e=>x f ((d.Aw H I y).2 a e) nofun nofun,λa e=>(k a ((d.Aw H I y).1.Dh e)).t ((d.Aw H I y).2 a e)⟩,d.AI.Av λa f e=>x f (d.FR a e) nofun nofun,λa e=>(k a (d.AI.Dh e)).t (d.FR a e),M.o,M.t,M.r⟩,λa f e S=> ?_,k⟩
 rw[AY,Ad S,M3];grind
end
variable{b:D}
def F0(a:G)(d:C F){c:C _}{e:Aa}{g:G}(k:a.next=e)(i:a.V (.I b c)=g)(j:c.l=b)(h:Ct c=L):(∀f,bl (.p a.next 0) (a.V (.I b d)) f=f (.p e 0) (a.V (.I b d)))/\A1 b (a.V (.I b d)) [.p e 0,.S c]=A (Ax,g):=by subst k;subst i;exact⟨λ_=>B,FL j h⟩
def K5(d:C Ab)(a:Ab)(e g f h:K)(c:D):AP:=
 ⟨e,g,f,h,Bv a.Ap.n AK,(a.Ay.t c).m λb=>Bv (C_ d b).n AK,Bv a.Ay.l 0,-1,(a.Ay.t c).m λb=>Bv (C_ d b).n E3⟩
def qZ(a:C _)(b:Ab)(d f e g:K){h:AD}(i:b.Ay[c]? =A h):K5 a b d f e g (c+1)={K5 a b d f e g c with AB:=(K5 a b d f e g c).AB++[Bv (C_ a h).n AK],A5:=(K5 a b d f e g c).A5++[Bv (C_ a h).n E3]}:=by unfold K5;rw[<-Gv i,AiZ,AiZ];rfl
def qY(c:C _)(a:Ab)(b e d f:K):K5 c a b e d f a.Ay.l=Dl c a b e d f:=by unfold K5 Dl;grind
structure Te(b:C Ab)(a:Ab):Prop where
 hl:b.l<1000000
 hp:1<=a.Ap/\a.Ap<=1000
 hn:a.Ay.l<=1000
 ho:∀c∈a.Ay,0<=C_ b c/\C_ b c<=1000
def AeH{d:C Ab}{c:Ab}(s:Te d c)(h k j l:K){f:G}{r:Aa}{xs:C F}(xc:f.N r=A (.I 6 (Z Ab.c d::xs)))(xh:Lv f r){N:D}{g:AD}(q:c.Ay[b]? =A g){n:G}{p:Aa}{S:Aa->Bz}{R xj E xa:F}{P J:D->F}(u:Dt S n N p (K5 d c h k j l b) R xj E xa P J)(z:∀a,Lv f a->S a=.DK)(U:AR f n):
  ∃t T xk xb xi Y,jj W9 71 2 [.n c.Ay.l,Z AD.c c.Ay,.p r 0,.n b,.p p 0] n=jj W9 71 2 [.n c.Ay.l,Z AD.c c.Ay,.p r 0,.n (b+1:D),.p p 0] t/\
   Dt T t N p (K5 d c h k j l (b+1)) R xk E xb xi Y/\(∀a,Lv f a->T a=.DK)/\AR f t:=by
 have xE:=s.hn
 let⟨xF,xG⟩:=s.ho g (Ail q)
 have xw:=Dx (Aid.1 q).1
 obtain⟨o,xf⟩:∃o:D,C_ d g=o:=⟨(C_ d g).n,by omega⟩
 have xg:(C_ d g).n=o:=by omega
 have I:=td d g (by have:=s.hl;omega)
 rw[xf]at I
 let⟨a,xB,e,xe,y,X,_⟩:=box n (.I 4 (AD.c g))
 let⟨xR,xO⟩:=F0 n [(.i .u8 0),(.s []),(.n 0),.sn] e xe B B
 have xJ:Bf 4 n [.pi (AD.c g)]=A (.S (AD.c g)):=B
 have x:=U.AQ y
 have v:=u.ext y
 have xK:(K5 d c h k j l b).AB.l=b:=by show(List.map _ (c.Ay.t b)).l=b;grind
 have xL:(K5 d c h k j l b).A5.l=b:=by show(List.map _ (c.Ay.t b)).l=b;grind
 let⟨xu,xo,xq,xC,xd,xN,xx,xH,xP,w,xz,xm⟩:=v.n3 (g:=o) (by omega) (by omega)
 let⟨xv,xp,xr,xD,M,xl,xy,xI,xQ,xt,xA,xn⟩:=w.n2 (g:=o) (by omega) (by grind)
 have xM:∀a,Lv f a->a≠p:=λa e W=>by have:=z a e;rw[W,u.Ci]at this;cases this
 have V:AR f xd:=λa e=>by grind
 refine⟨M,xl,xq,xr,Cf P (K5 d c h k j l b).AB.l xo,Cf J (K5 d c h k j l b).A5.l xp,?_,?_,λa e=>(xn a (V.lv e)).t ((λa e=>(xm a (x.lv e)).t (z a e)) a e),(λa e=>by grind:AR f M)⟩
 .rw[Ur.2.2.1];simp only[Q,QT,Ur.2.2.2.1,H (Gq q),H (AJ ((x.N xh).t xc) 0),H (B2 X),I.H B,H (AJ v.N 5),H (AJ w.N 8),Ur.2.2.2.2,H (BF (a:=b) (by omega)),ZR, *]
 .rw[qZ d c h k j l q,xg];grind
open Classical in
theorem iL {m:C Ab} {d:D} {a:Ab} (xI:m[d]? =A a) (W:Te m a) (f e g:K) {j:G} {y:Aa} {x3:C F} (xi:j.N y=A (.I 6 (Z Ab.c m::x3))) (xT:Lv j y) (q:D):∃l w V xW t xD o r n,W9 (Ar 71) [.p y 0,.n d,.n f,.n e,.n g] j=A (.p l 0,w)/\Dt V w q l (Dl m a d f e g) xW t xD o r n/\(∀c,Lv j c->V c=.DK)/\AR j w:=by
 have x6:=W.hn;let⟨x8,x9⟩:=W.hp
 obtain⟨b,x7⟩:∃b:D,a.Ap=b:=⟨a.Ap.n,by omega⟩;have xM:a.Ap.n=b:=by omega
 have xS:Bf 5 j [.pi (Ab.c a)]=A (.S (Ab.c a)):=B;let⟨xX,p,xP,xJ,xt,Y,U,yd⟩:=box j (.I 5 (Ab.c a))
 let⟨x4,x0⟩:=F0 j [(.s []),(.n 0),.sn,.sn,.sn] xP xJ B B
 have xA:p.AA xX 1=A (.n b):=by rw[AJ Y];show A (F.n a.Ap)=_;grind
 have xg:=UB p.next b (by omega);have xc:=UL p b;have x1:∀c,¬AE (.Z p.next 0 b (b+1) 2) c->c=p.next:=λc k=>Aih λJ=>k (Fe P);let⟨h,x,xm,xk,v,_,yb,ye⟩:=box p (.I (b*2) ((Bv b AK).f M.c))
 rw[xm]at xg xc x1;rw[xk]at xc;have xh:=du x.next a.Ay.l (by omega);have xd:=dU x a.Ay.l;have x2:∀c,¬AE (.Z x.next 0 a.Ay.l (a.Ay.l+1) 1) c->c=x.next:=λc k=>Aih λJ=>k (Fe λT=>J T.s);obtain⟨i,R,xn,xl,z,_,yc,yg⟩:=box x (.I (a.Ay.l*1) ((Bv a.Ay.l 0).f Bq));rw[xn]at xh xd x2;rw[xl]at xd;have xB:BE [(.n 0),(.n 0),(.n 0),(.n 0),.sn,.sn,.sn] [(0,1),(1,1),(2,1),(3,1),(4,1),(6,1)] [.n d,.n f,.n e,.n g,.Z h 0 b (b+1) 2,.Z i 0 a.Ay.l (a.Ay.l+1) 1]=A (.S [.n d,.n f,.n e,.n g,.Z h 0 b (b+1) 2,.sn,.Z i 0 a.Ay.l (a.Ay.l+1) 1]):=B;have xC:BE [(.n 0),(.n 0),(.n 0),(.n 0),.sn,.sn,.sn,(.n 0),.sn] [(0,7),(7,1)] [.S [.n d,.n f,.n e,.n g,.Z h 0 b (b+1) 2,.sn,.Z i 0 a.Ay.l (a.Ay.l+1) 1],.n (-1)]=A (.S [.n d,.n f,.n e,.n g,.Z h 0 b (b+1) 2,.sn,.Z i 0 a.Ay.l (a.Ay.l+1) 1,.n (-1),.sn]):=B;obtain⟨l,S,xO,xK,E,xE,xR,yh⟩:=box R (.I 9 [.n d,.n f,.n e,.n g,.Z h 0 b (b+1) 2,.sn,.Z i 0 a.Ay.l (a.Ay.l+1) 1,.n (-1),.sn]);have x5:∀xf,bl (.p R.next 0) (R.V (.I (BK (F.I (.S [.n d,.n f,.n e,.n g,.Z h 0 b (b+1) 2,.sn,.Z i 0 a.Ay.l (a.Ay.l+1) 1,.n (-1),.sn]))) (F.I (.S [.n d,.n f,.n e,.n g,.Z h 0 b (b+1) 2,.sn,.Z i 0 a.Ay.l (a.Ay.l+1) 1,.n (-1),.sn])))) xf=xf (.p l 0) S:=Em R (.I 9 [.n d,.n f,.n e,.n g,.Z h 0 b (b+1) 2,.sn,.Z i 0 a.Ay.l (a.Ay.l+1) 1,.n (-1),.sn]) xO xK;have xH:∃u,Dt u S q l (K5 m a d f e g 0) (.Z h 0 b (b+1) 2) .sn (.Z i 0 a.Ay.l (a.Ay.l+1) 1) .sn (λ_=>.sn) (λ_=>.sn)/\∀c,Lv j c->u c=.DK:=by
  have yf:h≠i:=by grind
  refine⟨λc=>if c=l then .Bw q else if c=h then .Ap q else if c=i then .AI q else .DK,?_,λc ya=> ?_⟩
  .exact{
   N:=xE
   lv:=xR
   Ci:=Af B
   Ap:=by show AF S _ _ 2 (Bv a.Ap.n AK);rw[xM];exact xc.ext (z.AQ E)
   FS:=λc k=>by grind
   AB:=AF.sn _
   JX:=λc k=>A_ (CM c) k
   Aw:=λxQ m xb=>by cases xb
   AI:=xd.ext E
   FR:=λc k=>by grind
   A5:=AF.sn _
   JW:=λc k=>A_ (CM c) k
   BS:=λxQ m xb=>by cases xb}
  .grind
 obtain⟨xY,xq,xy⟩:=xH;obtain⟨_,xj,X,xZ,t,o,r,n,xe,xz,xu⟩:=Ez
  (g:=λT _ xa=>∃u t o r n,Dt u xa q l (K5 m a d f e g T) (.Z h 0 b (b+1) 2) t (.Z i 0 a.Ay.l (a.Ay.l+1) 1) o r n/\(∀c,Lv j c->u c=.DK)/\AR j xa)
  (λT _ xa xL xv=>by obtain⟨u,t,o,r,n,xo,xw,xr⟩:=xv;obtain⟨k,xN⟩:=Bo xL;obtain⟨w,V,xV,xG,xU,xF,J,xp,xx,xs⟩:=AeH W d f e g xi xT xN xo xw xr;exact⟨(),w,J,V,xV,xG,xU,xF,xp,xx,xs⟩)
  (b:=()) ⟨xY,_,_,_,_,xq,xy,(xt.AQ (v.AQ (z.AQ E)))⟩
 have X:jj W9 71 2 [.n a.Ay.l,Z AD.c a.Ay,.p y 0,.n 0,.p l 0] S=jj W9 71 2 [.n a.Ay.l,Z AD.c a.Ay,.p y 0,.n a.Ay.l,.p l 0] xj:=X;rw[qY]at xe;refine⟨l,xj,xZ,_,t,_,o,r,n,Bd B B ?_,xe,xz,xu⟩;rw[Ur.1];simp only[x4,Q,H (AJ xi 0),H (Da xI),H xS,H x0,H xA,H xg,xm,xk,H (AJ ((v.N U).t Y) 2),H xh,xn,xl,H xB,H xC,x5,H (AJ ((E.N (z.lv (v.lv U))).t ((z.N (v.lv U)).t ((v.N U).t Y))) 2)];rw[X,Ur.2.2.1];simp only[Q,QT,Aic,(Dz a.Ay.l),Ur.2.1]
def EU.only{j:Aa->Bz}{m n:G}{s:C Ab}{l:C BL}{r:D}{h:Aa}{b:Ah}{g:Ly}(a:EU j m s l r h b g){e:D}{k:Bz}(y:b.T.l<=e)(d:k.of e)(c:Fb j m n k):EU j n s l r h b g where
 N:=(c h a.lv (by rw[a.Ci];intro b;subst b;exact d)).1.t a.N
 lv:=(c h a.lv (by rw[a.Ci];intro b;subst b;exact d)).2
 Ci:=a.Ci
 Bu:=(c g.r a.Hj (by rw[a.Gw];intro b;subst b;exact d)).1.t a.Bu
 Hj:=(c g.r a.Hj (by rw[a.Gw];intro b;subst b;exact d)).2
 Gw:=a.Gw
 T:=a.T.Av λf i e=>c f i (by rw[a.IS f e];intro b;subst b;exact d)
 IS:=a.IS
 Ae:=a.Ae.Av λf i u=>c f i (by rw[a.IT f u];intro b;subst b;exact d)
 IT:=a.IT
 Bw:=λq t o=>(a.Bw q t o).Av λw v p=>by
  have x:=(Aid.1 o).1;have:=c w v (by
   intro b;rw[b]at p;have:e=q:=by cases k<;>simp[Bz.of]at d p<;>grind
   omega)
  grind
open Classical in
def Cn.EK{g:CW}{q z:G}{b:Ah}{xr:D->Aa}{S:Aa->Prop}(xv:Cn g q b xr S)(Q:AR q z){J:Aa->Bz}{i:Aa}{s:AP}{I xq xj xl:F}{xp xk:D->F}(xt:Dt J z b.T.l i s I xq xj xl xp xk)(xw:∀a,Lv q a->J a=.DK)(xS:b.T.l<=400)(xF:0<s.Ap.l)(P:M):
  ∃x h xi j l r,z.AA i 4=A I/\AZ 2 [I,.n 0]=A (.p x 0)/\A1 2 z [.p x 0,.S (M.c P)]=A (Ax,h)/\h.AA g.x 2=A xi/\(∀(xe:F×G->R),((CB 1 1 h.next [.p i 0]).b λi=>(Eo 1 8 (G.V h i.1) [xi,i.2]).b xe)=xe (j,l))/\A1 1 l [.p g.x 2,j]=A (Ax,r)/\
   Cn g r ⟨b.T++[{s with Ap:=s.Ap.set 0 P}],b.Ae,b.round,b.Aq⟩ (λf=>if f=b.T.l then i else xr f) S/\BD S q r:=by
 obtain⟨xs,c,xy,rfl,xa⟩:=xv
 let⟨xV,xH⟩:=Bo xF
 obtain⟨n,xg,xx⟩:∃n,(∀a,Lv q a->n a=xs a)/\∀a,¬Lv q a->n a=J a:=⟨λa=>if Lv q a then xs a else J a,λa d=>Af d,λa d=>Ad d⟩
 have xd:=xt.Av λa d k=>⟨B,d,xx a λxG=>by rw[xw a xG]at k;exact k⟩
 let⟨x,h,xT,_,_,xU,xu,xf⟩:=xd.ab xH P
 have e:=(xy.UW λa d=>⟨Q.N d,Q.lv d,xg a d⟩).only (C6 _) (k:=.Ap b.T.l) B xf
 have xQ:=xf.FQ (by simp) (λa d=>⟨Q.lv (xa a d).1,(xg a (xa a d).1).t (xa a d).2⟩)
 have xP:AF h c.cv (US λf=>if f=b.T.l then i else c.pc f) 1 (List.range b.T.l):=by
  rcases e.T with xb|⟨xB,xC,xJ,xK,xL,xM⟩;.exact .i xb
  .refine .j ⟨xB,xC,xJ,xK,?_,xM⟩;rw[xL];congr 2;refine YC _ λm xn=> ?_;have:=AiT.1 xn;show[F.p (c.pc m) 0]=[F.p (if m=b.T.l then i else c.pc m) 0];rw[Ad (by omega)]
 obtain⟨j,l,xb,H,xD,xA⟩:=GS (w:=1) (o:=.p i 0) (h:=8) (λ_=>B) B (by show[F.p i 0]=[F.p (if b.T.l=b.T.l then i else c.pc b.T.l) 0];rw[Af B]) xP (EI (by grind))
 rw[<-Ajw]at H
 have xh:∀a,Lv h a->n a≠.T->AE c.cv a:=λa d p=>Aih λxz=>p (e.IS a xz)
 have U:=λa d p=>xD a d (xh a d p)
 have Y:=G9 (d:=2) ((U g.x e.lv (by rw[e.Ci];decide)).1.t e.N) (by omega) (by omega) (CS H).1 (CS H).2
 have xE:DJ 2 [j] [Z Ab.c g.l,.m c.r,c.cv,c.mv,.n b.round,.n b.Aq]=[Z Ab.c g.l,.m c.r,j,c.mv,.n b.round,.n b.Aq]:=B
 rw[xE]at Y
 have xc:∀a,a≠g.x->(l.set g.x (.I 6 [Z Ab.c g.l,.m c.r,j,c.mv,.n b.round,.n b.Aq])).N a=l.N a:=λa d=>by rw[AY,Ad d]
 have xm:(l.set g.x (.I 6 [Z Ab.c g.l,.m c.r,j,c.mv,.n b.round,.n b.Aq])).N g.x=A (.I 6 [Z Ab.c g.l,.m c.r,j,c.mv,.n b.round,.n b.Aq]):=by simp
 have xo:∀a,Lv (l.set g.x (.I 6 [Z Ab.c g.l,.m c.r,j,c.mv,.n b.round,.n b.Aq])) a=Lv l a:=by grind
 generalize l.set g.x (.I 6 [Z Ab.c g.l,.m c.r,j,c.mv,.n b.round,.n b.Aq])=r at Y xc xm xo
 have u:∀a,Lv h a->n a≠.T->n a≠.E2->r.N a=h.N a/\Lv r a:=λa d p xN=>⟨(xc a (λb=>xN (by rw[b];exact e.Ci))).t (U a d p).1,by grind⟩
 have W:∀a,Lv h a->(if Lv h a then n a else Bz.T)=n a:=by grind
 refine⟨x,h,c.cv,j,l,r,(AJ xd.N 4),by omega,by omega,(AJ e.N 2),xb,Y,⟨λa=>if Lv h a then n a else .T,{c with cv:=j,pc:=λf=>if f=b.T.l then i else c.pc f,pv:=λf=>if f=b.T.l then I else c.pv f,ov:=λf=>if f=b.T.l then xq else c.ov f,fv:=λf=>if f=b.T.l then xj else c.fv f,gv:=λf=>if f=b.T.l then xl else c.gv f,og:=λf=>if f=b.T.l then xp else c.og f,gg:=λf=>if f=b.T.l then xk else c.gg f},?_,B,λa d=> ?_⟩,λa d=> ?_⟩
 .exact{
  N:=xm
  lv:=by rw[xo];exact(U g.x e.lv (by rw[e.Ci];decide)).2
  Ci:=(W _ e.lv).t e.Ci
  Bu:=(u c.r e.Hj (by rw[e.Gw];decide) (by rw[e.Gw];decide)).1.t e.Bu
  Hj:=(u c.r e.Hj (by rw[e.Gw];decide) (by rw[e.Gw];decide)).2
  Gw:=(W _ e.Hj).t e.Gw
  T:=by rw[Aio];exact H.Av λa d p=>⟨xc a (λxI=>p (by rw[xI];exact xA g.x e.lv (xh g.x e.lv (by rw[e.Ci];decide)))),by grind⟩
  IS:=λa p=>by grind
  Ae:=e.Ae.Av λa d v=>u a d (by rw[e.IT a v];decide) (by rw[e.IT a v];decide)
  IT:=λa v=>(W a (e.Ae.lv v)).t (e.IT a v)
  Bw:=λm X E=>by
   by_cases xn:m<b.T.l
   .have E:b.T[m]? =A X:=by grind
    have xO:¬m=b.T.l:=by omega
    simp only[Ad xO];exact((e.Bw m X E).Av λa d k=>by have:=u a d (by intro b;rw[b]at k;exact k) (by intro b;rw[b]at k;exact k);grind)
   .have xR:m<b.T.l+1:=by grind
    have:m=b.T.l:=by omega
    subst this;have E:A {s with Ap:=s.Ap.set 0 P}=A X:=by grind
    cases E
    simp only[];exact xu.Av λa d k=>by have:=u a d (by intro b;rw[b]at k;exact k) (by intro b;rw[b]at k;exact k);grind}
 .grind
 grind
def ig{b:CW}{h:G}{a:Ah}{y:D->Aa}{m:Aa->Prop}(k:Cn b h a y m){d:D}{i:Ab}(u:b.l[d]? =A i)(q:Te b.l i)(X:a.T.l<=400)(f e g:K)(c:M):∃n z,W9 (Ar 121) [.p b.x 0,.n d,.n f,.n e,.n g,.S (M.c c)] h=A (.n (ED b.l a d f e g c).2,n)/\Cn b n (ED b.l a d f e g c).1 z m/\BD m h n/\∀p,p<a.T.l->z p=y p:=by
 have I:=k;obtain⟨xA,xb,S,rfl,xp⟩:=I;let⟨xa,o,Y,W,j,U,Z,xu⟩:=box h (.I 2 (M.c c))
 have xd:∀(s:F->G->R),bl (.p h.next 0) (h.V (.I (BK (F.I (.S (M.c c)))) (F.I (.S (M.c c))))) s=s (.p xa 0) o:=Em h (.I 2 (M.c c)) Y W;have l:=S.ext j;have xc:o.AA b.x 2=A xb.cv:=AJ l.N 2;have x:=C4 l.T;rw[Aip]at x;by_cases T:a.T.l=400
 .have v:ED b.l a d f e g c=(a,5):=by unfold ED;grind
  have t:(a.T.l:K)=400:=by omega
  refine⟨o,_,Bd B B ?_,by rw[v];exact k.ext j,P,P⟩;rw[v,cS.1];simp only[↓xd,↓Q,↓QT,↓H xc,↓H x,t]
 .have t:¬(a.T.l:K)=400:=by omega
  have w:ED b.l a d f e g c=(⟨a.T++[{Dl b.l i d f e g with Ap:=(Dl b.l i d f e g).Ap.set 0 c}],a.Ae,a.round,a.Aq⟩,0):=by unfold ED;rw[Ad T,Aif,u];rfl
  let⟨xx,xm,xB,xy,xw,xj,xl,xv,xk,xs,E,N,r⟩:=iL u q f e g l.N l.lv a.T.l
  have xe:=k.V j;have xq:=q.hp;let⟨xg,xn,xh,xi,xo,V,xz,xr,xD,xF,xt,xE,J,xf⟩:=(k.ext j).EK r E N X (by show 0<(Bv i.Ap.n AK).l;grind) c
  have xC:=(r.N Z).t U;refine⟨V,_,Bd B B ?_,by rw[w];exact J,P,P⟩;rw[w,cS.1];simp only[QY,cS.2, *]
def Lx(a:CW):Prop:=∃c,Hq a.es c/\∀(d:B0)(b:D),CO a.l d=(b:K)->Eu c d=A (.n (b:K))
def Lx.Je{a:CW}(f:Lx a){b:G}{c:Aa}{m:D}(l:b.N c=A (.Bu a.es m)){e:B0}{d:D}(j:CO a.l e=d):E7 Ac [2] (.n 0) Ac b [.m c,.s e]=A (.n d):=by
 let⟨n,k,i⟩:=f
 have g:Ql b (.m c)=A a.es:=by show(match Ir (b.N c)with|some (h,_)=>A h|none=>O)=_;rw[l];rfl
 rw[Yj g k,i e d j];rfl
def K9(b:C M)(c:M)(a:D):C M:=Bv a c++b.d a
def rW{a:C M}{c:M}(d:b<=a.l):(K9 a c b).l=a.l:=by unfold K9;grind
def rX{b:C M}{c:M}(d:a<b.l):(K9 b c a).set a c=K9 b c (a+1):=by
 unfold K9;let⟨f,_,e⟩:=Eh d
 rw[e,Akx _ _ (by grind),AjD,AjK,AjX,List.replicate_succ',Ajr];rfl
def rV(a:C M)(b:M):K9 a b a.l=a.m λ_=>b:=by unfold K9;rw[List.drop_of_length_le Om,Aiy,List.map_const']
def rY(a:C _)(b:M):K9 a b 0=a:=by simp[K9]
def JO{c:Ah}{d b:AP}(e:c.T[a]? =A d):(c.AM a b).T[a]? =A b:=AiF P
def MD(c:Ah)(a:D)(d b:AP):(c.AM a d).AM a b=c.AM a b:=by unfold Ah.AM;rw[Ajn]
def Ov{a:Ah}{c:AP}(e:a.T[b]? =A c):a.AM b c=a:=by
 unfold Ah.AM;have:a.T.set b c=a.T:=by
  refine Ajc λd=> ?_;by_cases f:b=d;.grind
  .grind
 rw[this]
def uO{d:CW}{k:G}{r:Ah}{xD:D->Aa}{x:Aa->Prop}(U:Cn d k r xD x)(xQ:Lx d){g:A8}(xB:g.F3=b)(xn:g.Ao=c)(u:AD)(a:M){j:AP}(E:r.T[b]? =A j){e:C M}(xA:j.AB[c]? =A e)(yk:e.l<1000000)(x6:r.T.l<=400)(x0:a.Ai≠5->∃(V:D)(W:Ab),CO d.l u.Bk=V/\d.l[V]? =A W/\Te d.l W):∃N xb,W9 (Ar 73) [.p d.x 0,.S (A8.c g),.S (AD.c u),.S (M.c a)] k=A (.n (H0 d.l r g u a).2,N)/\Cn d N (H0 d.l r g u a).1 xb x/\BD x k N/\∀b,b<r.T.l->xb b=xD b:=by
 let⟨xo,S,x7,x2,xN,xU,xC,yo⟩:=box k (.I 2 (A8.c g))
 let⟨xE,xm,x8,x3,xe,xV,ye,yp⟩:=box S (.I 4 (AD.c u))
 obtain⟨y,m,x9,x4,xf,xw,yn,yq⟩:=box xm (.I 2 (M.c a));have xH:∀(J:F->G->R),bl (.p k.next 0) (k.V (.I (BK (F.I (.S (A8.c g)))) (F.I (.S (A8.c g))))) J=J (.p xo 0) S:=Em k (.I 2 (A8.c g)) x7 x2;have xI:∀(J:F->G->R),bl (.p S.next 0) (S.V (.I (BK (F.I (.S (AD.c u)))) (F.I (.S (AD.c u))))) J=J (.p xE 0) xm:=Em S (.I 4 (AD.c u)) x8 x3;have xJ:=K2 xm a x9 x4;have T:=xN.AQ (xe.AQ xf);have xv:=(xf.N (xe.lv xC)).t ((xe.N xC).t xU);have xi:m.AA xo 0=A (.n g.F3):=AJ xv 0;have xj:m.AA xo 1=A (.n g.Ao):=AJ xv 1;have xF:m.AU y 0 2=A (M.c a):=B2 xw;have X:=YH a;by_cases xk:a.Ai=5
 .rw[Be xk]at X;have Z:H0 d.l r g u a=(r.AM b {j with AB:=j.AB.set c (e.m λ_=>a)},0):=by unfold H0;rw[Ad (by grind),xB,xn];simp only[Aif,DM E,xA,Aiz]
  obtain⟨xc,p,z,rfl,xX⟩:=(U.V T);obtain⟨yi,yb,yg⟩:=z.Lk E;have xd:=z.Bw b j E;have xx:c<j.AB.l:=by grind
  obtain⟨xS,xG⟩:=Dm (f:=EX (p.og b)) (w:=1) (λ_=>B) xd.AB (Ga xx);have yf:m.AA xS (c*1)=A (p.og b c):=by exact(xG.AA (f:=EX (p.og b)) (λ_=>B) (Ga xx) (b:=0) (by grind))
  have yr:∀v,¬Lv k v->Lv m v->Fo x k m v:=by grind
  have xO:Fo x k m y:=by grind
  obtain⟨_,Y,xl,⟨xt,xg⟩⟩:=Ez (h:=e.l) (f:=λq _ k=>jj W9 73 2 [.n e.l,p.og b c,.p y 0,.n q] k)
   (g:=λq _ k=>EU xc k d.l d.es d.k d.x (r.AM b {j with AB:=j.AB.set c (K9 e a q)}) p/\((∀v,Fo x _ m v->Lv k v/\xc v=.DK)/\BD (Fo x _ m) m k))
   (λq _ N xz xP=>by
    obtain⟨xu,x5,xs⟩:=xP;have yj:=Dx xz;have xM:=xu.Bw b _ (JO E);have xy:({j with AB:=j.AB.set c (K9 e a q)}).AB[c]? =A (K9 e a q):=by grind
    obtain⟨yu,ya⟩:=Bo (b:=K9 e a q) (a:=q) (by rw[rW (by omega)];grind);obtain⟨_,W,xW,_,_,ym,_,yt,xL,xq⟩:=xM.Q9 xy ya a;have xh:=xu.OD (JO E) (t:=.Aw b c) B xq xL;rw[MD]at xh;have x1:(AP.Aw {j with AB:=j.AB.set c (K9 e a q)} c q a)={j with AB:=j.AB.set c (K9 e a (q+1))}:=by unfold AP.Aw;rw[UZ xy,rX xz];simp only[Ajn]
    rw[x1]at xh;have xr:=xq.FQ (by grind) x5;have ys:N.AU y 0 2=A (M.c a):=B2 ((xs y xO).t xw);refine⟨(),xW,?_,xh,xr.1,xs.AQ xr.2⟩;rw[Qw.2.2.2.1];simp only[QY,Qw.2.2.2.2.1,Qw.2.2.2.2.2,H (BF (a:=q) (by omega)), *])
   (b:=()) (a:=m) (by
    rw[rY];have:j.AB.set c e=j.AB:=by
     refine Ajc λyc=> ?_;by_cases xn:c=yc;.grind
     .grind
    rw[this];rw[Ov E];grind)
  rw[rV]at xt;have xl:jj W9 73 2 [.n e.l,p.og b c,.p y 0,.n 0] m=jj W9 73 2 [.n e.l,p.og b c,.p y 0,.n e.l] Y:=xl;have xT:=Dz e.l;refine⟨Y,p.pc,Bd B B ?_,by rw[Z];exact⟨xc,p,xt,B,P⟩,λv xa=>(xg.2 v P).t (T.N (U.Dy xa)),λ_ _=>B⟩;rw[Z,Qw.1];rw[xB]at xi;rw[xn]at xj;simp only[↓xH,↓xI,↓xJ,↓Q,↓QT,↓H xF,↓X.H B,QB,Qw.2.1,↓H (AJ z.N 2:m.AA d.x 2=A p.cv),↓H xi,↓H yb,↓H yg,↓H (AJ xd.N 5:m.AA (p.pc b) 5=A (p.ov b)),↓H xj,↓H xG.ia,↓H yf,↓H (C4 (xd.Aw c e xA).1)];rw[xl,Qw.2.2.2.1];simp only[↓Q,↓QT,Aic,xT,Qw.2.2.1]
 .rw[Ba xk]at X;let⟨V,W,xY,xZ,xK⟩:=x0 xk
  have Z:H0 d.l r g u a=ED d.l r V g.F3 g.Ao 0 a:=by unfold H0;grind
  have xp:=U.ext T;let⟨xc,p,z,yl,xX⟩:=xp
  let⟨Y,xb,yd,yh,xg,xR⟩:=ig xp xZ xK x6 g.F3 g.Ao 0 a
  refine⟨Y,xb,Bd B B ?_,by grind,λv xa=>(xg v xa).t (T.N (U.Dy xa)),xR⟩;rw[Z,Qw.1];simp only[↓xH,↓xI,↓xJ,↓Q,↓QT,↓H xF,↓X.H B,QB,↓H (AJ z.N 1:m.AA d.x 1=A (.m p.r)),↓H (AJ ((xf.N ye).t xV) 1:m.AA xE 1=A (.s u.Bk)),↓H (xQ.Je z.Bu xY),↓H xi,↓H xj,↓H yd]
