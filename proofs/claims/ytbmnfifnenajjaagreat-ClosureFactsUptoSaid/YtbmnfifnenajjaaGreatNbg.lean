/- Part of the proof. -/
import Derived.Test.YtbmnfifnenajjaaGreatNbf
set_option linter.all false
noncomputable section
open Option renaming some->A,none->O,getD->Option.g,bind->Option.b
open _root_ renaming rfl->B,List->C,Nat->D,Int->K,if_neg->Ad,if_pos->Af,Option->Ae,Bool->Ah,cond->Aj,decide_eq_true->A0,decide_eq_false->A2,absurd->BF
open Bool renaming true->L,false->Aa
open Decidable renaming decide->Ao
open Nat renaming beq->AW,ble->BX,le_refl->CK
open List renaming replicate->BG,length->List.l,map->List.m,take->List.t,drop->List.d,flatMap->List.f
open Go.IntKind renaming i64->Go.IntKind.n
open Array renaming toList->Array.l
open Eq renaming trans->Eq.t,symm->Eq.s
open Or renaming inl->Or.i,inr->Or.j
open Int renaming toNat->Int.n
namespace Go.Proofs.YtbmnfifnenajjaaGreat
open Go.Fg
def P2(f:C Ab)(c:AK):Prop:=∃(d:D)(b:Ab),c.Bc=(d:K)/\f[d]? =A b/\c.AS.l=b.Av.l/\b.Av.l<=1000000/\∀a∈b.Av,a.A3.l<1000000/\(∀e∈a.A3,∃g,H0 c e=A g)/\(a.op=8\/a.op=9->a.A3≠[])
def IP(e:C Ab)(a:AK)(b:D):Ah:=match e[a.Bc.n]?with
 |some c=>match c.Av[b]?,a.AS[b]?with
  |some f,A d=>FH a f d
  |_,_=>Aa
 |none=>Aa
def Kf(e:C Ab)(a:AK)(b d:D):C A5:=((List.range d).filter (IP e a)).m λ(c:D)=>⟨(b:K),(c:K)⟩
def cv(c:C _)(b:AK)(d a:D):Kf c b d (a+1)=Kf c b d a++(if IP c b a=L then[⟨d,a⟩]else[]):=by unfold Kf;rw[AeX,List.filter_append,Aes];congr 1;cases e:IP c b a<;>simp[e]
def Yo(c:C Ab)(b:AK)(d a:D):(Kf c b d a).l<=a:=by unfold Kf;rw[Ad9];have:=List.length_filter_le (IP c b) (List.range a);rw[Ad0]at this;grind
variable{a:D}
def rD{xn:T->Bm}{e:G}{k t:T}{b:AK}{xm xl xc xe:F}{xk xd:D->F}(xI:C6 xn e a t b xm xl xc xe xk xd){j:C Ab}{xo:C F}(xJ:e.M k=A (.I 6 (Z Ab.c j::xo)))(xO:Lv e k)(xE:P2 j b){u:C A5}(xK:u.l<=400000000){d:F}(W:Aw e d A5.c 2 u){g:G}(xq:AH g e)(r:Dx g d)(v z:F)(xp:C6 xn g a t b xm xl xc xe xk xd)(xx:g.M k=A (.I 6 (Z Ab.c j::xo)))(xj:Lv g k):∃p R,jj W9 52 4 [.n b.AS.l,.p t 0,.n a,.n 0,.n a,v,z,.p k 0,d] e=jj W9 52 3 [.n a,v,z,.p k 0,p] R/\Aw R p A5.c 2 (u++Kf j b a b.AS.l)/\AH g R/\Dx g p:=by
 let⟨xs,X,xf,xg,xN,xL,xA⟩:=xE
 let⟨p,m,S,xD,q,xw⟩:=Dh (h:=b.AS.l) (f:=λc d m=>jj W9 52 4 [.n b.AS.l,.p t 0,.n a,.n c,.n a,v,z,.p k 0,d] m) (g:=λc d m=>Aw m d A5.c 2 (u++Kf j b a c)/\AH g m/\Dx g d)
  (λc d m xi xr=>by
   let⟨W,q,r⟩:=xr
   let⟨xb,xh⟩:=Bb xi
   let⟨V,U⟩:=Bb (b:=X.Av) (a:=c) (by omega)
   let⟨xF,xG,xH⟩:=xA V (AdU U)
   have Y:=Cm xi
   let⟨xy,P,H⟩:=rb (xp.ext q) ((q.M xj).t xx) (q.lv xj) xf xg U xh xF xG xH
   have xB:IP j b c=FH b V xb:=by unfold IP;rw[xf];show(match j[xs]?with|some X=>_|none=>Aa)=_;rw[xg];simp only[U,xh]
   have N:=cv j b a c
   rw[xB]at N
   cases M:FH b V xb with
   |true=>
    rw[M]at P;rw[M,Af B]at N;have xM:=Yo j b a c;have xv:Cb [(.n 0),(.n 0)] [(0,1),(1,1)] [.n a,.n c]=A (.S (A5.c ⟨a,c⟩)):=B;let⟨p,xz,xC,xP,xa,xt⟩:=FJ (f:=A5.c) (w:=2) (b:=⟨a,c⟩) (o:=.S (A5.c ⟨a,c⟩)) (h:=16) (λ_=>B) B B (W.ext H) (DG (by grind))
    have J:=q.AI H;refine⟨p,xz,?_,by grind,λE o=>⟨(xa.M (J.lv o) (r E o)).t (J.M o),xa.lv (J.lv o) (r E o)⟩,λE o=>xt E (J.lv o) (r E o)⟩;rw[LK.2.2.2.2.2.1];simp only[QY,Y,LK.2.2.2.2.2.2.1,P,xv,xC,LK.2.2.2.2.2.2.2,Bh (a:=c) (by omega)]
   |false=>rw[M]at P;rw[M,Ad (by grind),Ad5]at N;refine⟨d,xy,?_,by rw[N];exact W.ext H,q.AI H,r⟩;rw[LK.2.2.2.2.2.1];simp only[QY,Y,LK.2.2.2.2.2.2.1,P,LK.2.2.2.2.2.2.2,Bh (a:=c) (by omega)])
  (b:=d) (a:=e) ⟨by show Aw e d A5.c 2 (u++[]);rw[Ad5];grind,xq,r⟩
 have S:jj W9 52 4 [.n b.AS.l,.p t 0,.n a,.n 0,.n a,v,z,.p k 0,d] e=jj W9 52 4 [.n b.AS.l,.p t 0,.n a,.n b.AS.l,.n a,v,z,.p k 0,p] m:=S;have xu:=CA b.AS.l;refine⟨p,m,?_,xD,q,xw⟩;rw[S,LK.2.2.2.2.2.1];simp only[↓Q,↓QT,AdM,xu]
def JG(d:C Ab)(c:C AK):D->C A5
 |0=>[]
 |a+1=>JG d c a++(match c[a]?with|some b=>Kf d b a b.AS.l|none=>[])
def cb{d:C _}{c:C AK}(f:∀b∈c,P2 d b)(e:D)(h:1000000<=e):∀a,(JG d c a).l<=a*e
 |0=>by rw[Nat.zero_mul];exact CK _
 |a+1=>by
  have j:=cb f e h a
  have g:(JG d c (a+1)).l=(JG d c a).l+(match c[a]?with|some b=>Kf d b a b.AS.l|none=>[]).l:=AdY
  rw[g,Afe]
  refine Nat.add_le_add j ?_
  cases i:c[a]?with
  |none=>grind
  |some b=>
   let⟨k,l,_,_,m,n,_⟩:=f b (AdU i)
   exact Aem (Yo d b a b.AS.l) (by omega)
def qM{xd:T->Bm}{d:G}{l:C Ab}{V:C Bx}{xa:D}{m:T}{a:Ai}{g:Lm}(j:EB xd d l V xa m a g)(J:∀k∈a.Ac,P2 l k)(xi:a.Ac.l<=400):∃b v,W9 (pos 52) [.p m 0] d=A (b,v)/\Aw v b A5.c 2 (JG l a.Ac a.Ac.l)/\AH d v/\Dx d b:=by
 have xe:=j.M;have E:=Cp j.Ac;rw[Ad0]at E;let⟨b,e,x,xb,p,W⟩:=Dh (h:=a.Ac.l) (f:=λc b e=>jj W9 52 2 [.n a.Ac.l,g.cv,.p m 0,.n c,b] e) (g:=λc b e=>Aw e b A5.c 2 (JG l a.Ac c)/\AH d e/\Dx d b)
  (λc b e t R=>by
   let⟨xc,p,Y⟩:=R
   let⟨k,r⟩:=Bb t
   have xf:=Cm t;have q:=j.ext p;let⟨S,y⟩:=CD (f:=TB g.pc) (w:=1) (λ_=>B) q.Ac (F9 t)
   have xm:AM e [.p S (c*1)]=A (.p (g.pc c) 0):=by have:=y.Ap (f:=TB g.pc) (λ_=>B) (F9 t) (b:=0) (by grind);exact this
   have u:=q.BC c k r;have xl:=u.M;have xj:=Cp u.AS;have xh:=cb J 1000000 (CK _) c;let⟨N,z,xg,xk,P,X⟩:=rD u q.M q.lv (J k (AdU r)) (by omega) xc p Y (.n a.Ac.l) g.cv (j.BC c k r) j.M j.lv
   refine⟨N,z,?_,?_,P,X⟩;.show jj W9 52 2 _ _=jj W9 52 2 _ _;rw[LK.2.2.1];simp only[QY,LK.2.2.2.1,H y.ia,LK.2.2.2.2.1,H (Bh (a:=c) (by omega)), *]
   .show Aw z N A5.c 2 (JG l a.Ac c++_);rw[r];grind)
  (b:=.sn) (a:=d) ⟨Aw.sn d,λM Z=>⟨B,Z⟩,λM _=>Cg M⟩
 have x:jj W9 52 2 [.n a.Ac.l,g.cv,.p m 0,.n 0,.sn] d=jj W9 52 2 [.n a.Ac.l,g.cv,.p m 0,.n a.Ac.l,b] e:=x;have U:=CA a.Ac.l;refine⟨b,e,AZ B B ?_,xb,p,W⟩;rw[LK.1];simp only[QY,xe,E];rw[x,LK.2.2.1];simp only[↓Q,↓QT,AdM,U,LK.2.1]
def Bs(a:AK)(b:AF):N:=(H0 a b).g AO
def EQ:BA:=⟨0,Aa,Aa⟩
def Dl(c:C Ab)(a:Ab)(d f e g:K):AK:=
 ⟨d,f,e,g,BG a.An.n AO,a.Av.m λb=>BG (C7 c b).n AO,BG a.Av.l 0,-1,a.Av.m λb=>BG (C7 c b).n EQ⟩
def Ai.AJ(a:Ai)(c:D)(b:AK):Ai:=⟨a.Ac.set c b,a.Am,a.round,a.AA⟩
def EO(d:C Ab)(a:Ai)(b f e h:K)(g:N):Ai×K:=
 if a.Ac.l=400 then(a,5)else match d[b.n]?with
 |some c=>(⟨a.Ac++[{Dl d c b f e h with An:=(BG c.An.n AO).set 0 g}],a.Am,a.round,a.AA⟩,0)
 |none=>(a,0)
def FG(a:AK)(b:D)(c:N):AK×Ah:=
 if c.Ak=0\/((a.An[b]?).g AO).Ak≠0 then(a,Aa)else({a with An:=a.An.set b c},L)
def Dc(b:AF->N)(d:C AF)(c:AK):D->AK×Ah
 |0=>(c,Aa)
 |a+1=>match d[a]?with
  |some e=>((FG (Dc b d c a).1 a (b e)).1,(FG (Dc b d c a).1 a (b e)).2||(Dc b d c a).2)
  |none=>Dc b d c a
def CP{b:Type}(a:C (C b))(c d:D)(f:b):C (C b):=match a[c]?with
 |some e=>a.set c (e.set d f)
 |none=>a
def AK.AD(a:AK)(b c:D)(d:N):AK:={a with AG:=CP a.AG b c d}
def Ek(a:AK)(b c:D):BA:=(((a.A4[b]?).g [])[c]?).g EQ
def CZ(a:AK)(b c:D)(e:N)(d:BA):AK×Ah×K:=
 if Ek a b c=d then(a,Aa,0)else if(Ek a b c).is=L then(a,Aa,6)
 else({a with A4:=CP a.A4 b c d,AG:=CP a.AG b c e},L,0)
def Ce(b:D->N)(d:D)(c:BA)(e:AK):D->AK×Ah×K
 |0=>(e,Aa,0)
 |a+1=>
  if(Ce b d c e a).2.2≠0\/(b a).Ak=0 then Ce b d c e a
  else if(CZ (Ce b d c e a).1 d a (b a) c).2.2≠0 then((Ce b d c e a).1,(Ce b d c e a).2.1,(CZ (Ce b d c e a).1 d a (b a) c).2.2)
  else((CZ (Ce b d c e a).1 d a (b a) c).1,(Ce b d c e a).2.1||(CZ (Ce b d c e a).1 d a (b a) c).2.1,0)
def Zi:AK:=⟨0,-1,0,0,[],[],[],-1,[]⟩
def Ai.at(a:Ai)(b:D):AK:=(a.Ac[b]?).g Zi
def dP:Ab:=⟨[],0,[],[],[]⟩
def F4(b:C Ab)(a:AK):Ab:=(b[a.Bc.n]?).g dP
def bv:Au:=⟨0,[],0,[]⟩
def Fx(d:C Ab)(a:AK)(c:D):N:=match(F4 d a).Bk[c]?with|some b=>Bs a b|none=>AO
def Z3:AF:=⟨0,0⟩
def Et(b:C Ab)(a:AK):N:=Bs a (((F4 b a).A_[0]?).g Z3)
def JI(b:Ai)(e:D)(f:N):Ai×Ah×K:=
 let a:=b.at e
 let c:=a.AP.n
 let d:=Ce (λ_=>f) a.Ax.n ⟨a.Az,L,L⟩ (b.at c) (((b.at c).AG[a.Ax.n]?).g []).l
 (b.AJ c d.1,d.2)
def Gu(e:C Ab)(b:Ai)(d:D):Ai×Ah×K:=
 let a:=b.at d
 if a.next= -1 then
  let c:=EO e b a.Bc a.AP a.Ax (a.Az+1) (Et e a)
  if c.2≠0 then(b,Aa,c.2)else(c.1.AJ d {a with next:=(b.Ac.l:K)},L,0)
 else(b,Aa,0)
def Gv(c:C Ab)(b:Ai)(e:D):Ai×Ah:=
 let a:=b.at e
 let d:=Dc (Bs a) (F4 c a).A_ (b.at a.next.n) (F4 c a).A_.l
 (b.AJ a.next.n d.1,d.2)
def ER(a:C Ab)(b:Ai)(c:D):Ai×Ah×K:=
 let e:=b.at c
 if(Et a e).Ak=0 then(b,Aa,0)
 else if(Et a e).Ak=5 then JI b c (Et a e)
 else
  let d:=Gu a b c
  if d.2.2≠0 then d
  else
   let f:=Gv a d.1 c
   (f.1,f.2||d.2.1,0)
def QF(c:C Ab)(a:AK)(b:D):C AF:=(((F4 c a).Av[b]?).g bv).A3
def Cj(e:C Ab)(b:Ai)(d:D):Ai×Ah:=
 let a:=b.at d
 if a.Az>0 then(b,Aa)
 else
  let c:=b.at a.AP.n
  let f:=Dc (Bs c) (QF e c a.Ax.n) a (QF e c a.Ax.n).l
  (b.AJ d f.1,f.2)
def EU(c:C Ab)(b:Ai)(f:D):Ai×Ah×K:=
 let a:=b.at f
 let d:=a.AP.n
 let e:=Ce (Fx c a) a.Ax.n ⟨a.Az,Aa,L⟩ (b.at d) (F4 c a).Bk.l
 (b.AJ d e.1,e.2)
def El(e:C Ab)(d:Ai)(b:D):Ai×Ah×K:=
 if(d.at b).AP= -1 then(d,Aa,0)
 else
  let c:=Cj e d b
  let a:=EU e c.1 b
  if a.2.2≠0 then(a.1,c.2,a.2.2)
  else if(F4 e (d.at b)).A_.l=0 then(a.1,c.2||a.2.1,0)
  else
   let f:=ER e a.1 b
   (f.1,(c.2||a.2.1)||f.2.1,f.2.2)
def B9(b:C Ab)(c:Ai):D->Ai×Ah×K
 |0=>(c,Aa,0)
 |a+1=>
  if(B9 b c a).2.2≠0\/¬a<(B9 b c a).1.Ac.l then B9 b c a
  else((El b (B9 b c a).1 a).1,(B9 b c a).2.1||(El b (B9 b c a).1 a).2.1,(El b (B9 b c a).1 a).2.2)
def IF(a:C Ab)(b:D):D->Ai->Ae (Ai×K)
 |0,_=>O
 |d+1,c=>
  if(B9 a c b).2.2≠0 then A ((B9 a c b).1,(B9 a c b).2.2)
  else if(B9 a c b).2.1=L then IF a b d (B9 a c b).1
  else A ((B9 a c b).1,0)
def HB(b:AK)(a:Au):Ah:=Ao (a.op=6)&&(!Ao ((Bs b ((a.A3[0]?).g Z3)).Ak=0)&& !Ao ((Bs b ((a.A3[1]?).g Z3)).Ak=0))
def PC(c:C Ab)(b:Ai):K:=if(b.Ac.any λa=>(F4 c a).Av.any (HB a))=L then 6 else 0
def Ib(b:C Ab)(d e:D)(c:Ai):Ae (Ai×K):=match IF b d e c with
 |some a=>A (if a.2≠0 then a else(a.1,PC b a.1))
 |none=>O
def Ai.AD(a:Ai)(b c d:D)(e:N):Ai:=a.AJ b ((a.at b).AD c d e)
def HY(b:Ai)(a:Bz):Ai:=b.AD (a.Ct/1000).n (a.Ct % 1000).n 0 a.v
def Eh(a:Ai)(b:ED):Ai×N×K:=
 if(BE a.Am b).e≠0 then(a,AO,(BE a.Am b).e)
 else((BE a.Am b).F1.foldl HY ⟨a.Ac,(BE a.Am b).m,a.round,a.AA⟩,(BE a.Am b).v,0)
def Cu(a:C N)(b:D):N:=(a[b]?).g AO
def E7(c:Ai)(d:A5)(b:Au)(a:C N):Ai×N×K:=
 if b.op=4 then(c,Kc b.A8 a,0)
 else if b.op=6 then(c,(if(Cu a 0).Ak=0 then Cu a 1 else Cu a 0),0)
 else if b.op=7 then(c,Cu a 0,0)
 else if b.op=10 then Eh c ⟨1,Cu a 0,AO,AO,0⟩
 else if b.op=12 then Eh c ⟨3,Cu a 0,Cu a 1,AO,1000*d.FE+d.Ax⟩
 else if b.op=13 then Eh c ⟨4,Cu a 0,AO,AO,0⟩
 else if b.op=14 then(c,Na (Cu a 0),0)
 else(c,M_ b (Cu a 0),0)
def Nb(e:C Ab)(c:Ai)(a:A5)(f:Au)(d:N):Ai×K:=
 if d.Ak≠5 then EO e c (CH e f.A8) a.FE a.Ax 0 d
 else
  let b:=c.at a.FE.n
  (c.AJ a.FE.n {b with AG:=b.AG.set a.Ax.n (((b.AG[a.Ax.n]?).g []).m λ_=>d)},0)
def DO(a:Ai)(b:A5)(d:K):Ai:=
 let c:=a.at b.FE.n
 ⟨a.Ac.set b.FE.n {c with AS:=c.AS.set b.Ax.n d},a.Am,a.round,a.AA+1⟩
def F6(j:C Ab)(f:Ai)(e:A5)(k:K):Ai×K:=
 if f.AA=6000 then(f,5)
 else
  let d:=DO f e k
  let g:=e.FE.n
  let h:=e.Ax.n
  let i:=d.at g
  let c:=((F4 j i).Av[h]?).g bv
  let a:=c.A3.m (Bs i)
  if c.op=8\/c.op=9 then Nb j d e c (Cu a 0)
  else if c.op=11 then
   let b:=Eh d ⟨2,Cu a 0,Cu a 1,Cu a 2,0⟩
   (b.1,b.2.2)
  else if c.op=5 then(d.AD g h (FZ (Cu a 0) (Cu a 1)).1.n (FZ (Cu a 0) (Cu a 1)).2,0)
  else
   let b:=E7 d e c a
   if b.2.2≠0 then(b.1,b.2.2)else(b.1.AD g h 0 b.2.1,0)
def C3(c:C Ab)(e:C A5)(d:K)(a:Ai):D->Ai×K
 |0=>(a,0)
 |b+1=>if(C3 c e d a b).2≠0 then C3 c e d a b else match e[b]?with
  |some f=>F6 c (C3 c e d a b).1 f d
  |none=>C3 c e d a b
def Br(b:C Ab)(a:Ai):C A5:=JG b a.Ac a.Ac.l
def KH(b:C Ab)(e f:D)(a:Ai):Ae (Ai×K):=
 let d:Ai:=⟨a.Ac,a.Am,a.round+1,a.AA⟩
 let c:=C3 b (Br b a) (a.round+1) d (Br b a).l
 if c.2≠0 then A c else Ib b e f c.1
def HW(b:C Ab)(d e:D):D->Ai->Ae (Ai×K)
 |0,_=>O
 |f+1,a=>if(Br b a).l=0 then A (a,0)else match KH b d e a with
  |some c=>if c.2≠0 then A c else HW b d e f c.1
  |none=>O
theorem TK{f:Type}{b:C _}{a:D}{d:C _}(h:b[a]? =A d)(k:D)(e:f):CP b a k e=b.set a (d.set k e):=by unfold CP;grind
theorem Ik{e:Type}{b:C e}{i:D}{f t:e}(l:b[i]? =A f){a:D}{d:e}(h:(b.set i t)[a]? =A d):(a=i/\d=t)\/(a≠i/\b[a]? =A d):=by grind
section
variable{s:T->Bm} {h:G} {i:D} {p:T} {c:AK} {g j n m:F} {q r:D->F}
def EM(s:T->Bm)(h w:G)(t:Bm):Prop:=∀a,Lv h a->s a≠t->w.M a=h.M a/\Lv w a
theorem Rr{w:G}{b:T}{t:Bm}(o:s b=t)(l:∀a,a≠b->w.M a=h.M a)(e:∀a,Lv w a=Lv h a):EM s h w t:=λa d f=>⟨P,by grind⟩
theorem XY{z:Type}{d:z->C _}{a:D}(x:∀o,(d o).l=a){y:F}{E:C z}{t:Bm}(f:Aw h y d a E)(S:Tg s y t){e:D}{o:z}(v:E[e]? =A o){G:z}{H:F}(Q:H.I=d G)(J:BU (d G)=L):∃b w,AR a [y,.n e]=A (.p b (e*a))/\(∀f,f<a->h.Ap b (e*a+f)=(d o)[f]?)/\h.AL b (e*a) a=A (d o)/\AX a h [.p b (e*a),H]=A (AC,w)/\Aw w y d a (E.set e G)/\EM s h w t:=by
 let⟨b,l⟩:=CD x f v
 let⟨I,R⟩:=l.set x f v Q J
 exact⟨b,_,l.ia,λf M=>l.Ap x v M,l.AL x v,I,R,Rr (S b l.nb) (λT N=>by rw[AN,Ad N]) P⟩
section
variable{w:G} {t:Bm} (u:C6 s h i p c g j n m q r) (k:EM s h w t)
include u k
theorem C6.kc(a:t≠.BC i):w.M p=h.M p/\Lv w p:=k p u.lv (by rw[u.B3];grind)
theorem C6.kp(e:t≠.An i):Aw w g N.c 2 c.An:=u.An.Ar λa d b=>k a d (by rw[u.Fr a b];grind)
theorem C6.ko(e:t≠.AG i):Aw w j (EE q) 1 (List.range c.AG.l):=u.AG.Ar λa d b=>k a d (by rw[u.Jl a b];grind)
theorem C6.kf(e:t≠.AS i):Aw w n Be 1 c.AS:=u.AS.Ar λa d b=>k a d (by rw[u.Fq a b];grind)
theorem C6.kg(e:t≠.A4 i):Aw w m (EE r) 1 (List.range c.A4.l):=u.A4.Ar λa d b=>k a d (by rw[u.Jk a b];grind)
theorem C6.kx(a:D)(b:C _)(d:c.AG[a]? =A b)(o:t≠.AD i a):Aw w (q a) N.c 2 b/\Tg s (q a) (.AD i a):=⟨(u.AD a b d).1.Ar λe l f=>k e l (by rw[(u.AD a b d).2 e f];grind),(u.AD a b d).2⟩
theorem C6.ky(a:D)(b:C _)(d:c.A4[a]? =A b)(o:t≠.B1 i a):Aw w (r a) BA.c 3 b/\Tg s (r a) (.B1 i a):=⟨(u.B1 a b d).1.Ar λe l f=>k e l (by rw[(u.B1 a b d).2 e f];grind),(u.B1 a b d).2⟩
end
theorem C6.Yi(u:C6 s h i p c g j n m q r){a:D}{v:N}(H:c.An[a]? =A v)(d:N):∃b w,AR 2 [g,.n a]=A (.p b (a*2))/\h.Ap b (a*2)=A (.i .u8 v.Ak)/\h.AL b (a*2) 2=A (N.c v)/\AX 2 h [.p b (a*2),.S (N.c d)]=A (AC,w)/\C6 s w i p {c with An:=c.An.set a d} g j n m q r/\EM s h w (.An i):=by
 let⟨b,w,x,E,F,G,I,k⟩:=XY (d:=N.c) (λ_=>B) u.An u.Fr H (G:=d) (H:=.S (N.c d)) B B
 exact⟨b,_,x,E 0 (by grind),F,G,⟨(u.kc k (by simp)).1.t u.M,(u.kc k (by simp)).2,u.B3,I,u.Fr,u.ko k (by simp),u.Jl,λl o e=>u.kx k l o e (by simp),u.kf k (by simp),u.Fq,u.kg k (by simp),u.Jk,λl o e=>u.ky k l o e (by simp)⟩,k⟩
theorem C6.cp(u:C6 s h i p c g j n m q r){a:D}{G:K}(E:c.AS[a]? =A G)(d:K):∃b w,AR 1 [n,.n a]=A (.p b (a*1))/\AX 1 h [.p b (a*1),.n d]=A (AC,w)/\C6 s w i p {c with AS:=c.AS.set a d} g j n m q r/\EM s h w (.AS i):=by
 let⟨b,w,v,_,_,x,F,k⟩:=XY (d:=Be) (λ_=>B) u.AS u.Fq E (G:=d) (H:=.n d) B B
 exact⟨b,w,v,x,⟨(u.kc k (by simp)).1.t u.M,(u.kc k (by simp)).2,u.B3,u.kp k (by simp),u.Fr,u.ko k (by simp),u.Jl,λl o e=>u.kx k l o e (by simp),F,u.Fq,u.kg k (by simp),u.Jk,λl o e=>u.ky k l o e (by simp)⟩,k⟩
theorem C6.PP(u:C6 s h i p c g j n m q r){a b:D}{v:C N}{J:N}(l:c.AG[a]? =A v)(S:v[b]? =A J)(d:N):∃E x w,AR 1 [j,.n a]=A (.p E (a*1))/\AM h [.p E (a*1)]=A (q a)/\AR 2 [q a,.n b]=A (.p x (b*2))/\h.AL x (b*2) 2=A (N.c J)/\AX 2 h [.p x (b*2),.S (N.c d)]=A (AC,w)/\C6 s w i p (c.AD a b d) g j n m q r/\EM s h w (.AD i a):=by
 have G:=F9 (AdN.1 l).1;let⟨E,F⟩:=CD (f:=EE q) (λ_=>B) u.AG G
 let⟨x,w,P,_,Q,R,V,k⟩:=XY (d:=N.c) (λ_=>B) (u.AD a v l).1 (u.AD a v l).2 S (G:=d) (H:=.S (N.c d)) B B
 have H:(c.AD a b d).AG=c.AG.set a (v.set b d):=TK l b d;refine⟨E,x,w,F.ia,F.Ap (f:=EE q) (λ_=>B) G (b:=0) (by grind),P,Q,R,⟨(u.kc k (by simp)).1.t u.M,(u.kc k (by simp)).2,u.B3,u.kp k (by simp),u.Fr,by rw[H,Aed];exact u.ko k (by simp),u.Jl,λI U e=> ?_,u.kf k (by simp),u.Fq,u.kg k (by simp),u.Jk,λa T e=>u.ky k a T e (by simp)⟩,k⟩;rw[H]at e;rcases Ik l e with⟨rfl,rfl⟩|⟨W,e⟩;.exact⟨V,(u.AD I v l).2⟩
 .exact u.kx k I U e (by grind)
theorem C6.w8(u:C6 s h i p c g j n m q r){a b:D}{v:C BA}{F:BA}(l:c.A4[a]? =A v)(S:v[b]? =A F)(x:BA):∃E d w,AR 1 [m,.n a]=A (.p E (a*1))/\AM h [.p E (a*1)]=A (r a)/\AR 3 [r a,.n b]=A (.p d (b*3))/\h.AL d (b*3) 3=A (BA.c F)/\h.Ap d (b*3+2)=A (.b F.is)/\AX 3 h [.p d (b*3),.S (BA.c x)]=A (AC,w)/\C6 s w i p {c with A4:=CP c.A4 a b x} g j n m q r/\EM s h w (.B1 i a):=by
 have H:=F9 (AdN.1 l).1;let⟨E,G⟩:=CD (f:=EE r) (λ_=>B) u.A4 H
 let⟨d,w,N,P,Q,R,V,k⟩:=XY (d:=BA.c) (λ_=>B) (u.B1 a v l).1 (u.B1 a v l).2 S (G:=x) (H:=.S (BA.c x)) B B
 have I:=TK l b x;refine⟨E,d,w,G.ia,G.Ap (f:=EE r) (λ_=>B) H (b:=0) (by grind),N,Q,P 2 (by grind),R,⟨(u.kc k (by simp)).1.t u.M,(u.kc k (by simp)).2,u.B3,u.kp k (by simp),u.Fr,u.ko k (by simp),u.Jl,λa T e=>u.kx k a T e (by simp),u.kf k (by simp),u.Fq,by rw[I,Aed];exact u.kg k (by simp),u.Jk,λJ U e=> ?_⟩,k⟩;rw[I]at e;rcases Ik l e with⟨rfl,rfl⟩|⟨W,e⟩;.exact⟨V,(u.B1 J v l).2⟩
 .exact u.ky k J U e (by grind)
theorem C6.RH(u:C6 s h i p c g j n m q r)(a:K):∃w,AX 1 h [.p p 7,.n a]=A (AC,w)/\C6 s w i p {c with next:=a} g j n m q r/\EM s h w (.BC i):=by have k:EM s h (h.set p (.I 9 (Dg 7 [.n a] [.n c.Bc,.n c.AP,.n c.Ax,.n c.Az,g,j,n,.n c.next,m]))) (.BC i):=Rr u.B3 (λl f=>by rw[AN,Ad f]) P;exact⟨_,Gx (d:=7) (a:=.n a) u.M (by omega) (by omega) B B,⟨by rw[AN,Af B];rfl,by rw[K9];exact u.lv,u.B3,u.kp k (by simp),u.Fr,u.ko k (by simp),u.Jl,λd e b=>u.kx k d e b (by simp),u.kf k (by simp),u.Fq,u.kg k (by simp),u.Jk,λd e b=>u.ky k d e b (by simp)⟩,k⟩
end
theorem EB.NI{s:T->Bm}{h w:G}{E:C _}{y:C Bx}{k:D}{l:T}{b:Ai}{d:Lm}(a:EB s h E y k l b d){i:D}{c o:AK}{t:Bm}(H:b.Ac[i]? =A c)(f:t.of i)(e:EM s h w t)(R:C6 s w i (d.pc i) o (d.pv i) (d.ov i) (d.fv i) (d.gv i) (d.og i) (d.gg i)):EB s w E y k l (b.AJ i o) d where
 M:=(e l a.lv (by rw[a.B3];intro b;subst b;exact f)).1.t a.M
 lv:=(e l a.lv (by rw[a.B3];intro b;subst b;exact f)).2
 B3:=a.B3
 Bn:=(e _ a.GM (by rw[a.F0];intro b;subst b;exact f)).1.t a.Bn
 GM:=(e _ a.GM (by rw[a.F0];intro b;subst b;exact f)).2
 F0:=a.F0
 Ac:=by show Aw _ _ _ 1 (List.range (b.Ac.set i o).l);rw[Aed];exact a.Ac.Ar λp x P=>e p x (by rw[a.Ir p P];intro b;subst b;exact f)
 Ir:=a.Ir
 Am:=a.Am.Ar λp x I=>e p x (by rw[a.Is p I];intro b;subst b;exact f)
 Is:=a.Is
 BC:=λN F v=>by
  rcases Ik H v with⟨rfl,rfl⟩|⟨S,v⟩;.grind
  .exact(a.BC N F v).Ar λQ J z=>by
    have:=e Q J (by intro b;rw[b]at z;cases t<;>simp only[Bm.of]at f z<;>grind)
    grind
structure CI where
 l:C Ab
 es:C Bx
 k:D
 x:T
def B_(a:CI)(h:G)(e:Ai)(f:D->T)(d:T->Prop):Prop:=∃s b,EB s h a.l a.es a.k a.x e b/\b.pc=f/\∀p,d p->Lv h p/\s p=.C5
theorem EB.TG{s x:T->Bm}{h w:G}{o:C _}{f:C Bx}{k:D}{d:T}{e:Ai}{y:Lm}(a:EB s h o f k d e y)(b:∀p,Lv h p->w.M p=h.M p/\Lv w p/\x p=s p):EB x w o f k d e y where
 M:=(b d a.lv).1.t a.M
 lv:=(b d a.lv).2.1
 B3:=(b d a.lv).2.2.t a.B3
 Bn:=(b _ a.GM).1.t a.Bn
 GM:=(b _ a.GM).2.1
 F0:=(b _ a.GM).2.2.t a.F0
 Ac:=a.Ac.Ar P
 Ir:=λp v=>(b p (a.Ac.Cz v)).2.2.t (a.Ir p v)
 Am:=a.Am.Ar P
 Is:=λp l=>(b p (a.Am.lv l)).2.2.t (a.Is p l)
 BC:=λi c z=>(a.BC i c z).Ar P
theorem B_.ext{b:CI}{h w:G}{d:Ai}{e:D->T}{a:T->Prop}(l:B_ b h d e a)(f:AH h w):B_ b w d e a:=by
 let⟨s,x,o,v,y⟩:=l
 exact⟨s,x,o.ext f,v,P⟩
def ES(a:T->Prop)(h w:G):T->Prop:=λp=>a p\/(¬Lv h p/\Lv w p)
open Classical in
theorem B_.V {d:CI} {h w:G} {e:Ai} {f:D->T} {b:T->Prop} (l:B_ d h e f b) (y:AH h w):B_ d w e f (ES b h w):=by
 let⟨s,x,o,v,z⟩:=l
 refine⟨λp=>if Lv h p then s p else .C5,x,o.TG P,v,λp a=> ?_⟩;rcases a with a|a<;>grind
theorem B_.sub{d:CI}{h:G}{e:Ai}{f:D->T}{a b:T->Prop}(l:B_ d h e f a)(k:∀p,b p->a p):B_ d h e f b:=by
 let⟨s,x,o,v,y⟩:=l
 exact⟨s,x,o,v,P⟩
def Bo(a:T->Prop)(h w:G):Prop:=∀p,a p->w.M p=h.M p
theorem Bo.refl(a:T->Prop)(h:G):Bo a h h:=λ_ _=>B
theorem Bo.AI{a:T->Prop}{b d c:G}(h:Bo a b d)(k:Bo a d c):Bo a b c:=λp e=>(k p e).t (h p e)
attribute [grind->] Bo.AI
attribute [grind=] Bo ES EM
theorem EM.Fp{u:T->Bm}{h c:G}{d:Bm}(f:EM u h c d)(i:d≠.C5){b:T->Prop}(g:∀a,b a->Lv h a/\u a=.C5):(∀a,b a->Lv c a/\u a=.C5)/\Bo b h c:=
 ⟨P,P⟩
section
variable{u:T->Bm} {h:G} {l:C Ab} {y:C Bx} {k:D} {x:T} {e:Ai} {w:Lm}
theorem EB.Lf(g:EB u h l y k x e w){a:D}{i:AK}(j:e.Ac[a]? =A i):∃b,AR 1 [w.cv,.n a]=A (.p b (a*1))/\h.Ap b (a*1)=A (.p (w.pc a) 0):=by
 have d:=(AdN.1 j).1;let⟨b,c⟩:=CD (f:=TB w.pc) (w:=1) (λ_=>B) g.Ac (F9 d)
 exact⟨b,c.ia,by exact(c.Ap (f:=TB w.pc) (λ_=>B) (F9 d) (b:=0) (by grind))⟩
theorem EB.Yg(a:EB u h l y k x e w){f:G}{j g:K}(n:f.M x=A (.I 6 [Z Ab.c l,.m w.r,w.cv,w.mv,.n j,.n g]))(r:Lv f x)(c:EM u h f .Ex):EB u f l y k x ⟨e.Ac,e.Am,j,g⟩ w where
 M:=n
 lv:=r
 B3:=a.B3
 Bn:=(c _ a.GM (by rw[a.F0];grind)).1.t a.Bn
 GM:=(c _ a.GM (by rw[a.F0];grind)).2
 F0:=a.F0
 Ac:=a.Ac.Ar λb d s=>c b d (by rw[a.Ir b s];grind)
 Ir:=a.Ir
 Am:=a.Am.Ar λb d p=>c b d (by rw[a.Is b p];grind)
 Is:=a.Is
 BC:=λq m o=>(a.BC q m o).Ar λb d i=>by have:=c b d (by intro e;rw[e]at i;exact i);grind
theorem EB.MZ(b:EB u h l y k x e w)(a:K):∃c,AX 1 h [.p x 5,.n a]=A (AC,c)/\EB u c l y k x ⟨e.Ac,e.Am,e.round,a⟩ w/\EM u h c .Ex:=by have f:=Gx (d:=5) (a:=.n a) b.M (by omega) (by omega) B B;have g:Dg 5 [.n a] [Z Ab.c l,.m w.r,w.cv,w.mv,.n e.round,.n e.AA]=[Z Ab.c l,.m w.r,w.cv,w.mv,.n e.round,.n a]:=B;rw[g]at f;have d:EM u h (h.set x (.I 6 [Z Ab.c l,.m w.r,w.cv,w.mv,.n e.round,.n a])) .Ex:=Rr b.B3 (λj i=>by rw[AN,Ad i]) P;exact⟨_,f,b.Yg (by rw[AN,Af B]) (by rw[K9];exact b.lv) d,d⟩
theorem EB.Yj(b:EB u h l y k x e w)(a:K):∃c,AX 1 h [.p x 4,.n a]=A (AC,c)/\EB u c l y k x ⟨e.Ac,e.Am,a,e.AA⟩ w/\EM u h c .Ex:=by have f:=Gx (d:=4) (a:=.n a) b.M (by omega) (by omega) B B;have g:Dg 4 [.n a] [Z Ab.c l,.m w.r,w.cv,w.mv,.n e.round,.n e.AA]=[Z Ab.c l,.m w.r,w.cv,w.mv,.n a,.n e.AA]:=B;rw[g]at f;have d:EM u h (h.set x (.I 6 [Z Ab.c l,.m w.r,w.cv,w.mv,.n a,.n e.AA])) .Ex:=Rr b.B3 (λj i=>by rw[AN,Ad i]) P;exact⟨_,f,b.Yg (by rw[AN,Af B]) (by rw[K9];exact b.lv) d,d⟩
end
theorem DK{e:Ai}{b:D}{a:AK}(h:e.Ac[b]? =A a):e.at b=a:=by unfold Ai.at;grind
def FB(e:Ai)(c d k:D):Prop:=∃a b f,e.Ac[c]? =A a/\a.AG[d]? =A b/\b[k]? =A f
theorem FB.AD{e:Ai}{a b k:D}(h:FB e a b k)(g j m:D)(o:N):FB (e.AD g j m o) a b k:=by
 let⟨z,n,t,c,r,d⟩:=h
 unfold Ai.AD Ai.AJ FB;by_cases p:g=a
 .subst p;have f:=(AdN.1 c).1;rw[DK c];by_cases q:j=b
  .subst q;have E:=(AdN.1 d).1;let⟨v,s⟩:=Bb (b:=n.set m o) (a:=k) (by grind)
   exact⟨_,_,v,Aex f,by unfold AK.AD;rw[TK r];grind,s⟩
  .refine⟨_,n,t,Aex f,?_,d⟩;unfold AK.AD CP;grind
 grind
theorem B_.AD{n:CI}{h:G}{e:Ai}{j:D->T}{m:T->Prop}(F:B_ n h e j m){a b k:D}(R:FB e a b k)(o:N):
  ∃s g v r z f c,h.Ap n.x 2=A s/\AR 1 [s,.n a]=A (.p g (a*1))/\h.Ap g (a*1)=A (.p (j a) 0)/\h.Ap (j a) 5=A v/\AR 1 [v,.n b]=A (.p r (b*1))/\h.Ap r (b*1)=A z/\AR 2 [z,.n k]=A (.p f (k*2))/\
   AX 2 h [.p f (k*2),.S (N.c o)]=A (AC,c)/\B_ n c (e.AD a b k o) j m/\Bo m h c:=by
 obtain⟨u,w,d,rfl,Q⟩:=F
 let⟨I,xc,xd,i,J,M⟩:=R
 let⟨g,U,Y⟩:=d.Lf i
 have p:=d.BC a I i
 let⟨H,f,c,S,X,W,_,Z,E,q⟩:=p.PP J M o
 have xb:=d.NI i (t:=.AD a b) B q E
 have xa:=q.Fp (by grind) Q
 refine⟨w.cv,g,w.ov a,H,w.og a b,f,c,Ay d.M 2,U,Y,Ay p.M 5,S,X,W,Z,⟨u,w,?_,B,P⟩,P⟩
 unfold Ai.AD;rw[DK i];grind
def IY(e:Ai)(c:Bz):Prop:=∃a b:D,c.Ct=((1000*a+b:D):K)/\b<1000/\a<1000/\FB e a b 0
theorem IY.F1{e:Ai}{a:Bz}(h:IY e a)(j:Bz):IY (HY e j) a:=by
 let⟨g,i,b,c,d,f⟩:=h
 exact⟨g,i,b,c,d,f.AD _ _ _ _⟩
theorem IY.AaU{e:Ai}{b:Bz}(h:IY e b):∀a:C Bz,IY (a.foldl HY e) b:=λa=>by
 induction a generalizing e with
 |nil=>grind
 |cons x a c=>exact c (h.F1 x)
theorem cN{e:Ai}{b:Bz}{c a:D}(h:b.Ct=(1000*c+a:D))(d:a<1000):HY e b=e.AD c a 0 b.v:=by unfold HY;grind
theorem i1{a b:D}(c:a<1000)(d:b<1000):A6 .quo [.n (1000*a+b:D),.n 1000]=A (.n a):=by rw[X7 _ _ (by unfold Dk;omega) (by grind),Agd (by omega)];grind
theorem jm{b a:D}(c:b<1000)(d:a<1000):A6 .rem [.n (1000*b+a:D),.n 1000]=A (.n a):=by rw[WL .n _ (by grind),Age (by omega)];grind
theorem oF{f c:Type}{a:c->f->c}{d:c}{l:C _}{b:D}{x:f}(h:l[b]? =A x):(l.t (b+1)).foldl a d=a ((l.t b).foldl a d) x:=by rw[<-FL h,Af0];rfl
theorem px{d:CI}{h:G}{e:Ai}{z:D->T}{g:T->Prop}(Z:B_ d h e z g){o:F}{a:C Bz}(X:Aw h o Bz.c 3 a)(xo:∀m,¬As o m->g m)(xH:a.l<1000000)(xr:∀c∈a,IY e c):∃b,W9 (pos 152) [.p d.x 0,o] h=A (.AB [],b)/\B_ d b (a.foldl HY e) z g/\Bo g h b:=by
 let⟨_,U,r,J,xc⟩:=Dh (h:=a.l) (f:=λj _ h=>jj W9 152 1 [.n a.l,o,.p d.x 0,.n j] h) (g:=λj _ b=>B_ d b ((a.t j).foldl HY e) z g/\Bo g h b)
  (λj _ b W xa=>by
   let⟨q,xb⟩:=xa
   let⟨c,p⟩:=Bb W
   let⟨xd,xe,xn,v,V,xk⟩:=(xr c (AdU p)).AaU (a.t j)
   have xy:=Cm W;have xq:=X.Ar λm xl xp=>⟨xb m (xo m xp),by let⟨_,_,_,_,xi⟩:=q;grind⟩;let⟨xx,M⟩:=CD (f:=Bz.c) (w:=3) (λ_=>B) xq p
   have xN:=M.AL (f:=Bz.c) (λ_=>B) p;let⟨E,t,xm,xj,Y,S,xI,xJ⟩:=box b (.I 3 (Bz.c c))
   have xO:AX 3 (b.V (.I 3 [.n 0,.i .u8 0,.n 0])) [.p E 0,.S (Bz.c c)]=A (AC,t):=by rw[<-xm,<-xj];exact ET B B
   let⟨xz,xv,xK,xw,xs,xf,xh,xA,xB,xC,xD,xE,xF,R,xG,xt,xu⟩:=(q.ext Y).AD xk c.v
   have xL:t.Ap E 0=A (.n (1000*xd+xe:D)):=by rw[Ay S];show A (F.n c.Ct)=_;grind
   have xM:t.AL E 1 2=A (N.c c.v):=by rw[D1 S,Af (by omega),Ad (by omega)];rfl
   have R:AR 2 [xs,.n 0]=A (.p xf 0):=R;refine⟨(),xh,?_,by rw[oF p,cN xn v];grind,λm xl=>by
    let⟨_,_,_,_,xi⟩:=q
    grind⟩
   rw[US.2.1];simp only[QY,US.2.2.1,H M.ia,H (i1 V v),H (jm V v),US.2.2.2,H (Bh (a:=j) (by omega)), *])
  (b:=()) (a:=h) ⟨Z,P⟩
 have r:jj W9 152 1 [.n a.l,o,.p d.x 0,.n 0] h=jj W9 152 1 [.n a.l,o,.p d.x 0,.n a.l] U:=r;have xg:=CA a.l;rw[Gz]at J;refine⟨U,AZ B B ?_,J,xc⟩;rw[US.1];simp only[↓Q,↓H (Cp X)];rw[r,US.2.1];simp only[↓Q,↓QT,AdM,xg]
theorem e7{g:Type}(c d e b:F)(f:C F)(a:F->Ae g):(CO 3 [.AB (c::d::e::b::f)]).b a=a b:=rfl
def cw{b:G}{d:T}{c:D}{a:F}(f:a.I=[a]):AX 1 b [.p d c,.S [a]]=AX 1 b [.p d c,a]:=by show Aj (Aj (AW (Bq [a]) 1) (BU [a]) Aa) (match b.Ep d c 1 [a]with|some e=>A (AC,e)|none=>O) O=Aj (Aj (AW (Bq a.I) 1) (BU a.I) Aa) (match b.Ep d c 1 a.I with|some e=>A (AC,e)|none=>O) O;grind
open Classical in
def B_.Yh{b:CI}{h g:G}{d:Ai}{E:D->T}{q:T->Prop}(I:B_ b h d E q)(w:AH h g){f:F}{m p:D->F}{n:C AE}(s:CY g f m p n)(W:∀a,Lv h a->¬B8 f m p n.l a):∃i,AX 1 g [.p b.x 3,.S [f]]=A (AC,i)/\B_ b i ⟨d.Ac,n,d.round,d.AA⟩ E (λa=>q a\/(¬Lv h a/\Lv g a/\¬B8 f m p n.l a))/\(∀a,a≠b.x->i.M a=g.M a)/\(∀a,Lv i a=Lv g a)/\Lv h b.x/\∀a,q a->a≠b.x:=by
 obtain⟨H,e,c,rfl,Q⟩:=I;have x:=Gx (d:=3) ((w.M c.lv).t c.M) (by omega) (by omega) (Cr s.o).1 (Cr s.o).2;have N:Dg 3 [f] [Z Ab.c b.l,.m e.r,e.cv,e.mv,.n d.round,.n d.AA]=[Z Ab.c b.l,.m e.r,e.cv,f,.n d.round,.n d.AA]:=B;rw[N]at x;have u:∀a,a≠b.x->(g.set b.x (.I 6 [Z Ab.c b.l,.m e.r,e.cv,f,.n d.round,.n d.AA])).M a=g.M a:=λa j=>by rw[AN,Ad j]
 have y:(g.set b.x (.I 6 [Z Ab.c b.l,.m e.r,e.cv,f,.n d.round,.n d.AA])).M b.x=A (.I 6 [Z Ab.c b.l,.m e.r,e.cv,f,.n d.round,.n d.AA]):=by simp
 have v:∀a,Lv (g.set b.x (.I 6 [Z Ab.c b.l,.m e.r,e.cv,f,.n d.round,.n d.AA])) a=Lv g a:=by grind
 generalize g.set b.x (.I 6 [Z Ab.c b.l,.m e.r,e.cv,f,.n d.round,.n d.AA])=i at x u y v;have X:∀a,q a->a≠b.x:=λa j t=>by have:=(Q a j).2;rw[t,c.B3]at this;grind
 have r:∀k,Lv h k->H k≠.Ex->i.M k=h.M k/\Lv i k:=λk Y l=>⟨(u k (λt=>l (by rw[t];exact c.B3))).t P,by grind⟩;refine⟨i,by rw[cw (Cr s.o).1];grind,⟨λa=>if Lv h a then H a else if B8 f m p n.l a then .Am else .C5,{e with mv:=f,cs:=m,ws:=p},?_,B,?_⟩,u,v,c.lv,X⟩
 .exact{
  M:=y
  lv:=by rw[v];exact w.lv c.lv
  B3:=(Af c.lv).t c.B3
  Bn:=(r e.r c.GM (by rw[c.F0];grind)).1.t c.Bn
  GM:=(r e.r c.GM (by rw[c.F0];grind)).2
  F0:=(Af c.GM).t c.F0
  Ac:=c.Ac.Ar λa j l=>r a j (by rw[c.Ir a l];grind)
  Ir:=λa l=>(Af (c.Ac.Cz l)).t (c.Ir a l)
  Am:=s.Ar λa j S=>⟨u a (λt=>W b.x c.lv (by grind)),by grind⟩
  Is:=λa S=>P
  BC:=λU J R=>(c.BC U J R).Ar λa j z=>by have:=r a j (by intro d;rw[d]at z;exact z);grind}
 grind
def B_.C4{e:CI}{b:G}{f:Ai}{g:D->T}{a:T->Prop}(d:B_ e b f g a){c:T}(h:a c):Lv b c:=by obtain⟨_⟩:=d;grind
def gp{s:CI}{e:G}{b:Ai}{xw:D->T}{I:T->Prop}(J:B_ s e b xw I)(xF:Ft b.Am)(a:ED)(x3:a.op=1\/a.op=2\/a.op=3\/a.op=4)(x6:∀xj∈a.CQ,Ie xj b.Am.l=L)(x2:(BE b.Am a).F1.l<1000000)(yg:∀xi∈(BE b.Am a).F1,IY b xi):∃U,W9 (pos 99) [.p s.x 0,.S a.c8] e=A (.AB [.S (N.c (Eh b a).2.1),.n (Eh b a).2.2],U)/\B_ s U (Eh b a).1 xw I/\Bo I e U:=by
 have xG:=J;obtain⟨yF,xj,xK,rfl,xY⟩:=xG;let⟨xu,V,x4,x0,xC,xR,yc,yC⟩:=box e (.I 8 a.c8)
 let⟨xv,xq,x5,x1,xm,xS,yd,yf⟩:=box V (.I 2 [.i .u8 0,.n 0])
 have xA:∀(d:F->G->R),bl (.p e.next 0) (e.V (.I (Bq (F.I (.S a.c8))) (F.I (.S a.c8)))) d=d (.p xu 0) V:=Dy e (.I 8 a.c8) x4 x0;have xB:=Jp V x5 x1;have x:=xC.AI xm;have xo:=xK.ext x;have xz:xq.AL s.x 3 1=A [xj.mv]:=by rw[D1 xo.M,Af (by omega),Ad (by omega)];rfl
 have xy:xq.AL xu 0 8=A a.c8:=BB ((xm.M yc).t xR);have u:=pv xF xo.Am a x3 x6;by_cases M:(BE b.Am a).e=0
 .let⟨yr,xi,yu,yH,c,xc,y,xn,yh,yv,yw⟩:=u.2 M
  let⟨j,g,xa,Y,r,S,xd,xe⟩:=box c (.I 1 [.sn])
  let⟨f,xX,xb,Z,l,xU,ye,xs⟩:=box g (.I 2 [.i .u8 0,.n 0])
  have xk:∀(d:F->G->R),bl (.p c.next 0) (c.V (.I 1 [.sn])) d=d (.p j 0) g:=Dy c (.I 1 [.sn]) xa Y;have xl:=Jp g xb Z;have w:j≠f:=by grind
  let⟨W,xf,yl,i⟩:=PR ((l.M xd).t S) (Cr xn.o).2
  let⟨n,xg,xx,m⟩:=Gy (b:=W) (a:=f) (f:=[.i .u8 0,.n 0]) (by rw[i,AN,Ad w.symm];grind) (BE b.Am a).v
  have E:=r.AI l;have k:AH c n:=by rw[m,i];exact(E.Gw xe _).Gw P _
  have yp:n.AL j 0 1=A [yr]:=BB (by rw[m,AN,Ad w,i,AN,Af B]);have p:=y.AI k;have xD:=x.AI p;have xJ:=xn.ext k;let⟨t,xh,xH,yE,yA,yB,yD⟩:=J.Yh xD xJ P
  have yi:Aw t xi Bz.c 3 (BE b.Am a).F1:=(yh.ext k).Ar P;let⟨X,yb,xI,yt⟩:=px xH yi P x2 (λyo x7=>by
   let⟨x9,ya,xM,xN,xO,xP⟩:=yg yo x7
   exact⟨x9,ya,xM,xN,xO,xP⟩)
  have yx:n.M f=A (.I 2 (N.c (BE b.Am a).v)):=by rw[m,AN,Af B]
  have xV:X.M f=A (.I 2 (N.c (BE b.Am a).v)):=by grind
  have xT:X.M xv=A (.I 2 [.i .u8 0,.n 0]):=by grind
  have yq:X.AL f 0 2=A (N.c (BE b.Am a).v):=BB xV;let⟨xW,yn,yk,xp⟩:=Gy xT (BE b.Am a).v
  let⟨ym,ys,xL,x8,xZ⟩:=xI
  have o:Eh b a=((BE b.Am a).F1.foldl HY ⟨b.Ac,(BE b.Am a).m,b.round,b.AA⟩,(BE b.Am a).v,0):=by unfold Eh;grind
  have yG:=(xZ xv P).2;refine⟨xW,AZ B B ?_,⟨ym,ys,?_,x8,P⟩,λxt xr=> ?_⟩;.rw[o,aY.1];simp only[↓xA,↓xB,↓xk,↓xl,↓Q,↓e7,↓QT,AdM,↓H xz,↓H xy,↓H xc,↓H xf,↓H xg];rw[aY.2];simp only[QY,yp,xh,yb,yq,yn,yk]
  .rw[o,xp];exact xL.Ar λxt xr yy=>⟨by rw[AN,Ad P],by grind⟩
  .have yz:=(xY xt xr).1;rw[xp,AN,Ad (λb=>yf (by grind))];grind
 .let⟨c,xc,y⟩:=u.1 M
  let⟨j,g,xa,Y,r,S,xd,xe⟩:=box c (.I 1 [.sn])
  let⟨f,xX,xb,Z,l,xU,ye,xs⟩:=box g (.I 2 [.i .u8 0,.n 0])
  have xk:∀(d:F->G->R),bl (.p c.next 0) (c.V (.I 1 [.sn])) d=d (.p j 0) g:=Dy c (.I 1 [.sn]) xa Y;have xl:=Jp g xb Z;have w:j≠f:=by grind
  let⟨W,xf,yl,i⟩:=PR ((l.M xd).t S) (b:=.sn) B
  let⟨n,xg,xx,m⟩:=Gy (b:=W) (a:=f) (f:=[.i .u8 0,.n 0]) (by rw[i,AN,Ad w.symm];grind) AO
  have E:=r.AI l;have k:AH c n:=by rw[m,i];exact(E.Gw xe _).Gw (λu=>xs (r.lv u)) _
  have p:=y.AI k;let⟨t,xh,yj,xQ⟩:=Gy ((p.M yd).t xS) AO
  have xE:AH e t:=by rw[xQ];exact(x.AI p).Gw P _
  have o:Eh b a=(b,AO,(BE b.Am a).e):=by unfold Eh;grind
  refine⟨t,AZ B B ?_,by rw[o];exact J.ext xE,P⟩;rw[o,aY.1];simp only[↓xA,↓xB,↓xk,↓xl,↓Q,↓e7,↓QT,AdM,↓H xz,↓H xy,↓H xc,↓H xf,↓H xg,M,↓H xx,↓H xh,↓H yj]
theorem W4{f k:Type}{d e:f->C k}:∀(a:C f),(∀b∈a,d b=e b)->a.f d=a.f e
 |[],_=>rfl
 |b::a,h=>by rw[Aeh,Aeh,h b (Aey ..),W4 a λj g=>h j (Aez _ g)]
theorem wz(a:D):F_ [.n 0,.b Aa,.b Aa] a=(BG a EQ).f BA.c:=by
 induction a with
 |zero=>rfl
 |succ a b=>show Es [.n 0,.b Aa,.b Aa] (F_ [.n 0,.b Aa,.b Aa] a)=_;rw[KU,b,Ae4,Aeh];rfl
theorem uk(b:T)(a:D)(d:a<=1000000):Gd [(.n 0),(.b Aa),(.b Aa)] 3 16 b [.n a,.n a]=A (.I (a*3) ((BG a EQ).f BA.c),.Z b 0 a (a+1) 3):=by show Aj _ _ O=_;rw[(AdX Om:BX a a=L),(AdX (by show a*16<=100000000000;omega):BX _ GA=L),wz];rfl
theorem u5(b:G)(a:D):Aw (b.V (.I (a*3) ((BG a EQ).f BA.c))) (.Z b.next 0 a (a+1) 3) BA.c 3 (BG a EQ):=by refine .j ⟨b.next,a+1,by grind,P,by grind,P⟩
theorem wA(a:D):F_ [.n 0] a=(BG a 0).f Be:=by
 induction a with
 |zero=>rfl
 |succ a b=>show Es [.n 0] (F_ [.n 0] a)=_;rw[KU,b,Ae4,Aeh];rfl
theorem bn(b:T)(a:D)(d:a<=1000000):Gd [(.n 0)] 1 8 b [.n a,.n a]=A (.I (a*1) ((BG a 0).f Be),.Z b 0 a (a+1) 1):=by show Aj _ _ O=_;rw[(AdX Om:BX a a=L),(AdX (by show a*8<=100000000000;omega):BX _ GA=L),wA];rfl
theorem bN(b:G)(a:D):Aw (b.V (.I (a*1) ((BG a 0).f Be))) (.Z b.next 0 a (a+1) 1) Be 1 (BG a 0):=by refine .j ⟨b.next,a+1,by grind,P,by grind,P⟩
structure M6{j:Type}(w:j->C F)(x:D)(f:T->Bm)(h:G)(v:Bm)(k:D->Bm)(g:F)(b:D->F)(d:C (C j)):Prop where
 o:Aw h g (EE b) 1 (List.range d.l)
 t:Tg f g v
 r:∀(a:D) e,d[a]? =A e->Aw h (b a) w x e/\Tg f (b a) (k a)
theorem M6.Ar{P:Type}{H:P->C _}{N:D}{v J:T->Bm}{h y:G}{x:Bm}{w:D->Bm}{M:F}{I:D->F}{E:C _}(d:M6 H N v h x w M I E)(f:∀a,Lv h a->(v a=x\/∃e,v a=w e)->y.M a=h.M a/\Lv y a/\J a=v a):M6 H N J y x w M I E where
 o:=d.o.Ar λa k b=>⟨(f a k (.i (d.t a b))).1,(f a k (.i (d.t a b))).2.1⟩
 t:=λa b=>(f a (d.o.Cz b) (.i (d.t a b))).2.2.t (d.t a b)
 r:=λe j g=>⟨(d.r e j g).1.Ar λa k b=>⟨(f a k (.j ⟨e,(d.r e j g).2 a b⟩)).1,(f a k (.j ⟨e,(d.r e j g).2 a b⟩)).2.1⟩,λa b=>(f a ((d.r e j g).1.Cz b) (.j ⟨e,(d.r e j g).2 a b⟩)).2.2.t ((d.r e j g).2 a b)⟩
open Classical in
theorem M6.Es{Z:Type}{U:Z->C F}{Y:D}{v:T->Bm}{h:G}{g:Bm}{E:D->Bm}{N:F}{I:D->F}{b:C (C Z)}(Q:M6 U Y v h g E N I b)(xz:∀d,E d≠g)(xy:∀d M,E d=E M->d=M)(xC:b.l<1000000){H:BV}{e:F}{X:C Z}(xh:Aw (h.V H) e U Y X)(xk:∀a,¬As e a->a=h.next)(xD:Fl e=L)(xw:e.I=[e]):
  ∃R j xi,(∀(xb:F×G->Ae (F×G)),((Dq 1 1 (h.V H).next [e]).b λp=>(DN 1 24 (G.V (h.V H) p.1) [N,p.2]).b xb)=xb (R,j))/\M6 U Y xi j g E R (BW I b.l e) (b++[X])/\
   (∀a,Lv h a->v a≠g->j.M a=h.M a/\Lv j a)/\(∀a,Lv h a->xi a=v a):=by
 have xa:AH h (h.V H):=AH.V _ _
 have xe:Lv (h.V H) h.next:=by grind
 have xf:=EX h
 generalize xA:h.V H=xn at xa xh xe
 generalize h.next=W at xk xe xf
 have xt:Aw xn N (EE (BW I b.l e)) 1 (List.range b.l):=by
  rcases(Q.o.ext xa)with M|⟨xl,xm,xp,xq,xr,xs⟩;.exact .i M
  .refine .j ⟨xl,xm,xp,xq,?_,xs⟩;rw[xr];congr 2;refine W4 _ λd J=> ?_;have:=AeU.1 J;show[I d]=[BW I b.l e d];rw[CE (by omega)]
 let⟨R,j,M,xg,xx,xu⟩:=FJ (f:=EE (BW I b.l e)) (w:=1) (b:=b.l) (o:=e) (h:=24) (λ_=>B) (by unfold EE;rw[Ec,DJ];grind) (by unfold EE;rw[Ec];grind) xt (DG (by grind))
 have xo:List.range b.l++[b.l]=List.range (b++[X]).l:=by rw[AdY,AeE,AeX]
 rw[xo]at xg
 have xv:∀a,Lv h a->v a≠g->As N a:=λa V k=>AdS λS=>k (Q.t a S)
 have xc:∀a,Lv h a->v a≠g->j.M a=h.M a/\Lv j a:=P
 have xE:As N W:=AdS λS=>xf (Q.o.Cz S)
 refine⟨R,j,λa=>if Lv h a then v a else if a=W then E b.l else g,by omega,?_,xc,P⟩
 have xj:∀a,Lv h a->(if Lv h a then v a else if a=W then E b.l else g)=v a:=by grind
 exact{
  o:=xg
  t:=λa k=>by grind
  r:=λd xd J=>by
   by_cases xB:d<b.l
   .have J:b[d]? =A xd:=by grind
    have:=Q.r d xd J;rw[CE (by omega)];exact⟨this.1.Ar λa V k=>xc a V (by rw[this.2 a k];grind),λa k=>(xj a P).t (this.2 a k)⟩
   .have:d=b.l:=by
     grind
    subst this
    rw[Ae9 Om,Afc]at J
    cases J
    rw[Ec]
    refine⟨xh.Ar λa V k=> ?_,λa k=> ?_⟩<;>grind}
theorem NU{p:T}{e b g:D}:∀a,¬As (.Z p 0 e b g) a->a=p:=λa f=>by
 by_cases d:p=a;.grind
 .exact BF (EN d) f
section
variable{n:T->Bm} {h:G} {i:D} {p:T} {c:AK} {q s u z:F} {l m:D->F}
theorem C6.iF(g:C6 n h i p c q s u z l m){b:G}{e:Bm}{f:BV}(o:∀a,Lv h a->n a≠e->b.M a=h.M a/\Lv b a):∀⦃a:T⦄⦃d:Bm⦄,Lv h a->n a=d->d≠e->d≠.BC i->(b.set p f).M a=h.M a/\Lv (b.set p f) a:=by
 rintro a _ t rfl r k
 rw[AN,Ad λj=>k (by rw[j];exact g.B3),K9]
 grind
theorem C6.lk(d:C6 n h i p c q s u z l m){g:D}(xa:g<=1000)(W:c.AG.l<1000000):
  ∃S U j t E w,Gd [(.i .u8 0),(.n 0)] 2 16 h.next [.n g,.n g]=A (S,U)/\(∀(r:F×G->R),((Dq 1 1 (h.V S).next [U]).b λp=>(DN 1 24 (G.V (h.V S) p.1) [s,p.2]).b r)=r (j,t))/\AX 1 t [.p p 5,j]=A (AC,E)/\
   C6 w E i p {c with AG:=c.AG++[BG g AO]} q j u z (BW l c.AG.l U) m/\(∀a,Lv h a->n a≠.AG i->a≠p->E.M a=h.M a/\Lv E a)/\∀a,Lv h a->w a=n a:=by
 let⟨j,t,w,X,J,r,k⟩:=M6.Es (H:=.I (g*2) ((BG g AO).f N.c)) ⟨d.AG,d.Jl,d.AD⟩ nofun P W (Tu h g) NU B B
 have T:=r p d.lv (by rw[d.B3];nofun)
 have V:=Gx (d:=5) (a:=j) (T.1.t d.M) (by omega) (by omega) (Cr J.o).1 (Cr J.o).2
 have x:=d.iF (f:=.I 9 (Dg 5 [j] [.n c.Bc,.n c.AP,.n c.Ax,.n c.Az,q,s,u,.n c.next,z])) r
 have Y:=(k p d.lv).t d.B3
 have Q:=J.Ar (J:=w) (y:=t.set p (.I 9 (Dg 5 [j] [.n c.Bc,.n c.AP,.n c.Ax,.n c.Az,q,s,u,.n c.next,z]))) λa f Z=>⟨by rw[AN,Ad P],by grind,B⟩
 refine⟨_,_,j,t,_,w,Ti h.next g (by omega),X,V,⟨by rw[AN,Af B];rfl,by grind,Y,d.An.Ar λa f e=>x f (d.Fr a e) nofun nofun,λa e=>(k a (d.An.Cz e)).t (d.Fr a e),Q.o,Q.t,Q.r,d.AS.Ar λa f e=>x f (d.Fq a e) nofun nofun,λa e=>(k a (d.AS.Cz e)).t (d.Fq a e),d.A4.Ar λa f e=>x f (d.Jk a e) nofun nofun,λa e=>(k a (d.A4.Cz e)).t (d.Jk a e),λH I y=>⟨(d.B1 H I y).1.Ar λa f e=>x f ((d.B1 H I y).2 a e) nofun nofun,λa e=>(k a ((d.B1 H I y).1.Cz e)).t ((d.B1 H I y).2 a e)⟩⟩,λa f e T=> ?_,k⟩
 rw[AN,Ad T,K9];grind
theorem C6.lj(d:C6 n h i p c q s u z l m){g:D}(Z:g<=1000)(V:c.A4.l<1000000):
  ∃Q T j t E w,Gd [(.n 0),(.b Aa),(.b Aa)] 3 16 h.next [.n g,.n g]=A (Q,T)/\(∀(r:F×G->R),((Dq 1 1 (h.V Q).next [T]).b λp=>(DN 1 24 (G.V (h.V Q) p.1) [z,p.2]).b r)=r (j,t))/\AX 1 t [.p p 8,j]=A (AC,E)/\
   C6 w E i p {c with A4:=c.A4++[BG g EQ]} q s u j l (BW m c.A4.l T)/\(∀a,Lv h a->n a≠.A4 i->a≠p->E.M a=h.M a/\Lv E a)/\∀a,Lv h a->w a=n a:=by
 let⟨j,t,w,W,J,r,k⟩:=M6.Es (H:=.I (g*3) ((BG g EQ).f BA.c)) ⟨d.A4,d.Jk,d.B1⟩ nofun P V (u5 h g) NU B B
 have S:=r p d.lv (by rw[d.B3];nofun)
 have U:=Gx (d:=8) (a:=j) (S.1.t d.M) (by omega) (by omega) (Cr J.o).1 (Cr J.o).2
 have x:=d.iF (f:=.I 9 (Dg 8 [j] [.n c.Bc,.n c.AP,.n c.Ax,.n c.Az,q,s,u,.n c.next,z])) r
 have X:=(k p d.lv).t d.B3
 have N:=J.Ar (J:=w) (y:=t.set p (.I 9 (Dg 8 [j] [.n c.Bc,.n c.AP,.n c.Ax,.n c.Az,q,s,u,.n c.next,z]))) λa f Y=>⟨by rw[AN,Ad P],by grind,B⟩
 refine⟨_,_,j,t,_,w,uk h.next g (by omega),W,U,⟨by rw[AN,Af B];rfl,by grind,X,d.An.Ar λa f e=>x f (d.Fr a e) nofun nofun,λa e=>(k a (d.An.Cz e)).t (d.Fr a e),d.AG.Ar λa f e=>x f (d.Jl a e) nofun nofun,λa e=>(k a (d.AG.Cz e)).t (d.Jl a e),λH I y=>⟨(d.AD H I y).1.Ar λa f e=>x f ((d.AD H I y).2 a e) nofun nofun,λa e=>(k a ((d.AD H I y).1.Cz e)).t ((d.AD H I y).2 a e)⟩,d.AS.Ar λa f e=>x f (d.Fq a e) nofun nofun,λa e=>(k a (d.AS.Cz e)).t (d.Fq a e),N.o,N.t,N.r⟩,λa f e S=> ?_,k⟩
 rw[AN,Ad S,K9];grind
end
variable{b:D}
def EL(a:G)(d:C F){c:C _}{e:T}{g:G}(k:a.next=e)(i:a.V (.I b c)=g)(j:c.l=b)(h:BU c=L):(∀f,bl (.p a.next 0) (a.V (.I b d)) f=f (.p e 0) (a.V (.I b d)))/\AX b (a.V (.I b d)) [.p e 0,.S c]=A (AC,g):=by subst k;subst i;exact⟨λ_=>B,ET j h⟩
def Kr(d:C Ab)(a:Ab)(e g f h:K)(c:D):AK:=
 ⟨e,g,f,h,BG a.An.n AO,(a.Av.t c).m λb=>BG (C7 d b).n AO,BG a.Av.l 0,-1,(a.Av.t c).m λb=>BG (C7 d b).n EQ⟩
def nk(a:C _)(b:Ab)(d f e g:K){c:D}{h:Au}(i:b.Av[c]? =A h):Kr a b d f e g (c+1)={Kr a b d f e g c with AG:=(Kr a b d f e g c).AG++[BG (C7 a h).n AO],A4:=(Kr a b d f e g c).A4++[BG (C7 a h).n EQ]}:=by unfold Kr;rw[<-FL i,Aes,Aes];rfl
def nj(c:C _)(a:Ab)(b e d f:K):Kr c a b e d f a.Av.l=Dl c a b e d f:=by unfold Kr Dl;grind
structure RT(b:C Ab)(a:Ab):Prop where
 hl:b.l<1000000
 hp:1<=a.An/\a.An<=1000
 hn:a.Av.l<=1000
 ho:∀c∈a.Av,0<=C7 b c/\C7 b c<=1000
def Aay{d:C Ab}{c:Ab}(s:RT d c)(h k j l:K){f:G}{r:T}{xt:C F}(xd:f.M r=A (.I 6 (Z Ab.c d::xt)))(xi:Lv f r){N:D}{g:Au}(q:c.Av[b]? =A g){n:G}{p:T}{S:T->Bm}{R xk E xb:F}{P J:D->F}(u:C6 S n N p (Kr d c h k j l b) R xk E xb P J)(z:∀a,Lv f a->S a=.C5)(V:AH f n):
  ∃t U xl xc xj xa,jj W9 96 2 [.n c.Av.l,Z Au.c c.Av,.p r 0,.n b,.p p 0] n=jj W9 96 2 [.n c.Av.l,Z Au.c c.Av,.p r 0,.n (b+1:D),.p p 0] t/\
   C6 U t N p (Kr d c h k j l (b+1)) R xl E xc xj xa/\(∀a,Lv f a->U a=.C5)/\AH f t:=by
 have xF:=s.hn
 let⟨xG,xH⟩:=s.ho g (AdU q)
 have xx:=Cm (AdN.1 q).1
 obtain⟨o,xg⟩:∃o:D,C7 d g=o:=⟨(C7 d g).n,by omega⟩
 have xh:(C7 d g).n=o:=by omega
 have I:=pt d g (by have:=s.hl;omega)
 rw[xg]at I
 let⟨a,xC,e,xf,y,Y,_⟩:=box n (.I 4 (Au.c g))
 let⟨xS,xP⟩:=EL n [(.i .u8 0),(.s []),(.n 0),.sn] e xf B B
 have xK:A9 4 n [.pi (Au.c g)]=A (.S (Au.c g)):=B
 have x:=V.AI y
 have v:=u.ext y
 have xL:(Kr d c h k j l b).AG.l=b:=by show(List.map _ (c.Av.t b)).l=b;grind
 have xM:(Kr d c h k j l b).A4.l=b:=by show(List.map _ (c.Av.t b)).l=b;grind
 let⟨xv,xp,xr,xD,xe,xO,xy,xI,xQ,w,xA,xn⟩:=v.lk (g:=o) (by omega) (by omega)
 let⟨xw,xq,xs,xE,M,xm,xz,xJ,xR,xu,xB,xo⟩:=w.lj (g:=o) (by omega) (by grind)
 have xN:∀a,Lv f a->a≠p:=λa e X=>by have:=z a e;rw[X,u.B3]at this;cases this
 have W:AH f xe:=λa e=>by grind
 refine⟨M,xm,xr,xs,BW P (Kr d c h k j l b).AG.l xp,BW J (Kr d c h k j l b).A4.l xq,?_,?_,λa e=>(xo a (W.lv e)).t ((λa e=>(xn a (x.lv e)).t (z a e)) a e),(λa e=>by grind:AH f M)⟩
 .rw[S9.2.2.1];simp only[Q,QT,S9.2.2.2.1,H (Fa q),H (Ay ((x.M xi).t xd) 0),H (BB Y),I.H B,H (Ay v.M 5),H (Ay w.M 8),S9.2.2.2.2,H (Bh (a:=b) (by omega)),ZR, *]
 .rw[nk d c h k j l q,xh];grind
open Classical in
theorem go {m:C Ab} {d:D} {a:Ab} (xJ:m[d]? =A a) (X:RT m a) (f e g:K) {j:G} {y:T} {x4:C F} (xj:j.M y=A (.I 6 (Z Ab.c m::x4))) (xU:Lv j y) (q:D):∃l w W xX t xE o r n,W9 (pos 96) [.p y 0,.n d,.n f,.n e,.n g] j=A (.p l 0,w)/\C6 W w q l (Dl m a d f e g) xX t xE o r n/\(∀c,Lv j c->W c=.C5)/\AH j w:=by
 have x7:=X.hn;let⟨x9,ya⟩:=X.hp
 obtain⟨b,x8⟩:∃b:D,a.An=b:=⟨a.An.n,by omega⟩;have xN:a.An.n=b:=by omega
 have xT:A9 5 j [.pi (Ab.c a)]=A (.S (Ab.c a)):=B;let⟨xY,p,xQ,xK,xu,xa,V,ye⟩:=box j (.I 5 (Ab.c a))
 let⟨x5,x1⟩:=EL j [(.s []),(.n 0),.sn,.sn,.sn] xQ xK B B
 have xB:p.Ap xY 1=A (.n b):=by rw[Ay xa];show A (F.n a.An)=_;grind
 have xh:=Ti p.next b (by omega);have xd:=Tu p b;have x2:∀c,¬As (.Z p.next 0 b (b+1) 2) c->c=p.next:=λc k=>AdS λJ=>k (EN P);let⟨h,x,xn,xl,v,_,yc,yf⟩:=box p (.I (b*2) ((BG b AO).f N.c))
 rw[xn]at xh xd x2;rw[xl]at xd;have xi:=bn x.next a.Av.l (by omega);have xe:=bN x a.Av.l;have x3:∀c,¬As (.Z x.next 0 a.Av.l (a.Av.l+1) 1) c->c=x.next:=λc k=>AdS λJ=>k (EN λU=>J U.s);obtain⟨i,R,xo,xm,z,_,yd,yh⟩:=box x (.I (a.Av.l*1) ((BG a.Av.l 0).f Be));rw[xo]at xi xe x3;rw[xm]at xe;have xC:Cb [(.n 0),(.n 0),(.n 0),(.n 0),.sn,.sn,.sn] [(0,1),(1,1),(2,1),(3,1),(4,1),(6,1)] [.n d,.n f,.n e,.n g,.Z h 0 b (b+1) 2,.Z i 0 a.Av.l (a.Av.l+1) 1]=A (.S [.n d,.n f,.n e,.n g,.Z h 0 b (b+1) 2,.sn,.Z i 0 a.Av.l (a.Av.l+1) 1]):=B;have xD:Cb [(.n 0),(.n 0),(.n 0),(.n 0),.sn,.sn,.sn,(.n 0),.sn] [(0,7),(7,1)] [.S [.n d,.n f,.n e,.n g,.Z h 0 b (b+1) 2,.sn,.Z i 0 a.Av.l (a.Av.l+1) 1],.n (-1)]=A (.S [.n d,.n f,.n e,.n g,.Z h 0 b (b+1) 2,.sn,.Z i 0 a.Av.l (a.Av.l+1) 1,.n (-1),.sn]):=B;obtain⟨l,S,xP,xL,E,xF,xS,yi⟩:=box R (.I 9 [.n d,.n f,.n e,.n g,.Z h 0 b (b+1) 2,.sn,.Z i 0 a.Av.l (a.Av.l+1) 1,.n (-1),.sn]);have x6:∀xg,bl (.p R.next 0) (R.V (.I (Bq (F.I (.S [.n d,.n f,.n e,.n g,.Z h 0 b (b+1) 2,.sn,.Z i 0 a.Av.l (a.Av.l+1) 1,.n (-1),.sn]))) (F.I (.S [.n d,.n f,.n e,.n g,.Z h 0 b (b+1) 2,.sn,.Z i 0 a.Av.l (a.Av.l+1) 1,.n (-1),.sn])))) xg=xg (.p l 0) S:=Dy R (.I 9 [.n d,.n f,.n e,.n g,.Z h 0 b (b+1) 2,.sn,.Z i 0 a.Av.l (a.Av.l+1) 1,.n (-1),.sn]) xP xL;have xI:∃u,C6 u S q l (Kr m a d f e g 0) (.Z h 0 b (b+1) 2) .sn (.Z i 0 a.Av.l (a.Av.l+1) 1) .sn (λ_=>.sn) (λ_=>.sn)/\∀c,Lv j c->u c=.C5:=by
  have yg:h≠i:=by grind
  refine⟨λc=>if c=l then .BC q else if c=h then .An q else if c=i then .AS q else .C5,?_,λc yb=> ?_⟩
  .exact{
   M:=xF
   lv:=xS
   B3:=Af B
   An:=by show Aw S _ _ 2 (BG a.An.n AO);rw[xN];exact xd.ext (z.AI E)
   Fr:=λc k=>by grind
   AG:=Aw.sn _
   Jl:=λc k=>BF (Cg c) k
   AD:=λxR m xc=>by cases xc
   AS:=xe.ext E
   Fq:=λc k=>by grind
   A4:=Aw.sn _
   Jk:=λc k=>BF (Cg c) k
   B1:=λxR m xc=>by cases xc}
  .grind
 obtain⟨xZ,xr,xz⟩:=xI;obtain⟨_,xk,Y,x0,t,o,r,n,xf,xA,xv⟩:=Dh
  (g:=λU _ xb=>∃u t o r n,C6 u xb q l (Kr m a d f e g U) (.Z h 0 b (b+1) 2) t (.Z i 0 a.Av.l (a.Av.l+1) 1) o r n/\(∀c,Lv j c->u c=.C5)/\AH j xb)
  (λU _ xb xM xw=>by obtain⟨u,t,o,r,n,xp,xx,xs⟩:=xw;obtain⟨k,xO⟩:=Bb xM;obtain⟨w,W,xW,xH,xV,xG,J,xq,xy,xt⟩:=Aay X d f e g xj xU xO xp xx xs;exact⟨(),w,J,W,xW,xH,xV,xG,xq,xy,xt⟩)
  (b:=()) ⟨xZ,_,_,_,_,xr,xz,(xu.AI (v.AI (z.AI E)))⟩
 have Y:jj W9 96 2 [.n a.Av.l,Z Au.c a.Av,.p y 0,.n 0,.p l 0] S=jj W9 96 2 [.n a.Av.l,Z Au.c a.Av,.p y 0,.n a.Av.l,.p l 0] xk:=Y;rw[nj]at xf;refine⟨l,xk,x0,_,t,_,o,r,n,AZ B B ?_,xf,xA,xv⟩;rw[S9.1];simp only[x5,Q,H (Ay xj 0),H (CB xJ),H xT,H x1,H xB,H xh,xn,xl,H (Ay ((v.M V).t xa) 2),H xi,xo,xm,H xC,H xD,x6,H (Ay ((E.M (z.lv (v.lv V))).t ((z.M (v.lv V)).t ((v.M V).t xa))) 2)];rw[Y,S9.2.2.1];simp only[Q,QT,AdM,(CA a.Av.l),S9.2.1]
def EB.only{j:T->Bm}{m n:G}{s:C Ab}{l:C Bx}{r:D}{h:T}{b:Ai}{g:Lm}(a:EB j m s l r h b g){e:D}{k:Bm}(y:b.Ac.l<=e)(d:k.of e)(c:EM j m n k):EB j n s l r h b g where
 M:=(c h a.lv (by rw[a.B3];intro b;subst b;exact d)).1.t a.M
 lv:=(c h a.lv (by rw[a.B3];intro b;subst b;exact d)).2
 B3:=a.B3
 Bn:=(c g.r a.GM (by rw[a.F0];intro b;subst b;exact d)).1.t a.Bn
 GM:=(c g.r a.GM (by rw[a.F0];intro b;subst b;exact d)).2
 F0:=a.F0
 Ac:=a.Ac.Ar λf i e=>c f i (by rw[a.Ir f e];intro b;subst b;exact d)
 Ir:=a.Ir
 Am:=a.Am.Ar λf i u=>c f i (by rw[a.Is f u];intro b;subst b;exact d)
 Is:=a.Is
 BC:=λq t o=>(a.BC q t o).Ar λw v p=>by
  have x:=(AdN.1 o).1;have:=c w v (by
   intro b;rw[b]at p;have:e=q:=by cases k<;>simp[Bm.of]at d p<;>grind
   omega)
  grind
open Classical in
def B_.Es{g:CI}{q z:G}{b:Ai}{xr:D->T}{S:T->Prop}(xv:B_ g q b xr S)(Q:AH q z){J:T->Bm}{i:T}{s:AK}{I xq xj xl:F}{xp xk:D->F}(xt:C6 J z b.Ac.l i s I xq xj xl xp xk)(xw:∀a,Lv q a->J a=.C5)(xS:b.Ac.l<=400)(xF:0<s.An.l)(P:N):
  ∃x h xi j l r,z.Ap i 4=A I/\AR 2 [I,.n 0]=A (.p x 0)/\AX 2 z [.p x 0,.S (N.c P)]=A (AC,h)/\h.Ap g.x 2=A xi/\(∀(xe:F×G->R),((Dq 1 1 h.next [.p i 0]).b λi=>(DN 1 8 (G.V h i.1) [xi,i.2]).b xe)=xe (j,l))/\AX 1 l [.p g.x 2,j]=A (AC,r)/\
   B_ g r ⟨b.Ac++[{s with An:=s.An.set 0 P}],b.Am,b.round,b.AA⟩ (λf=>if f=b.Ac.l then i else xr f) S/\Bo S q r:=by
 obtain⟨xs,c,xy,rfl,xa⟩:=xv
 let⟨xV,xH⟩:=Bb xF
 obtain⟨n,xg,xx⟩:∃n,(∀a,Lv q a->n a=xs a)/\∀a,¬Lv q a->n a=J a:=⟨λa=>if Lv q a then xs a else J a,λa d=>Af d,λa d=>Ad d⟩
 have xd:=xt.Ar λa d k=>⟨B,d,xx a λxG=>by rw[xw a xG]at k;exact k⟩
 let⟨x,h,xT,_,_,xU,xu,xf⟩:=xd.Yi xH P
 have e:=(xy.TG λa d=>⟨Q.M d,Q.lv d,xg a d⟩).only (CK _) (k:=.An b.Ac.l) B xf
 have xQ:=xf.Fp (by simp) (λa d=>⟨Q.lv (xa a d).1,(xg a (xa a d).1).t (xa a d).2⟩)
 have xP:Aw h c.cv (TB λf=>if f=b.Ac.l then i else c.pc f) 1 (List.range b.Ac.l):=by
  rcases e.Ac with xb|⟨xB,xC,xJ,xK,xL,xM⟩;.exact .i xb
  .refine .j ⟨xB,xC,xJ,xK,?_,xM⟩;rw[xL];congr 2;refine W4 _ λm xn=> ?_;have:=AeU.1 xn;show[F.p (c.pc m) 0]=[F.p (if m=b.Ac.l then i else c.pc m) 0];rw[Ad (by omega)]
 obtain⟨j,l,xb,H,xD,xA⟩:=FJ (w:=1) (o:=.p i 0) (h:=8) (λ_=>B) B (by show[F.p i 0]=[F.p (if b.Ac.l=b.Ac.l then i else c.pc b.Ac.l) 0];rw[Af B]) xP (DG (by grind))
 rw[<-AeX]at H
 have xh:∀a,Lv h a->n a≠.Ac->As c.cv a:=λa d p=>AdS λxz=>p (e.Ir a xz)
 have U:=λa d p=>xD a d (xh a d p)
 have Y:=Gx (d:=2) ((U g.x e.lv (by rw[e.B3];decide)).1.t e.M) (by omega) (by omega) (Cr H).1 (Cr H).2
 have xE:Dg 2 [j] [Z Ab.c g.l,.m c.r,c.cv,c.mv,.n b.round,.n b.AA]=[Z Ab.c g.l,.m c.r,j,c.mv,.n b.round,.n b.AA]:=B
 rw[xE]at Y
 have xc:∀a,a≠g.x->(l.set g.x (.I 6 [Z Ab.c g.l,.m c.r,j,c.mv,.n b.round,.n b.AA])).M a=l.M a:=λa d=>by rw[AN,Ad d]
 have xm:(l.set g.x (.I 6 [Z Ab.c g.l,.m c.r,j,c.mv,.n b.round,.n b.AA])).M g.x=A (.I 6 [Z Ab.c g.l,.m c.r,j,c.mv,.n b.round,.n b.AA]):=by simp
 have xo:∀a,Lv (l.set g.x (.I 6 [Z Ab.c g.l,.m c.r,j,c.mv,.n b.round,.n b.AA])) a=Lv l a:=by grind
 generalize l.set g.x (.I 6 [Z Ab.c g.l,.m c.r,j,c.mv,.n b.round,.n b.AA])=r at Y xc xm xo
 have u:∀a,Lv h a->n a≠.Ac->n a≠.Ex->r.M a=h.M a/\Lv r a:=λa d p xN=>⟨(xc a (λb=>xN (by rw[b];exact e.B3))).t (U a d p).1,by grind⟩
 have W:∀a,Lv h a->(if Lv h a then n a else Bm.Ac)=n a:=by grind
 refine⟨x,h,c.cv,j,l,r,(Ay xd.M 4),by omega,by omega,(Ay e.M 2),xb,Y,⟨λa=>if Lv h a then n a else .Ac,{c with cv:=j,pc:=λf=>if f=b.Ac.l then i else c.pc f,pv:=λf=>if f=b.Ac.l then I else c.pv f,ov:=λf=>if f=b.Ac.l then xq else c.ov f,fv:=λf=>if f=b.Ac.l then xj else c.fv f,gv:=λf=>if f=b.Ac.l then xl else c.gv f,og:=λf=>if f=b.Ac.l then xp else c.og f,gg:=λf=>if f=b.Ac.l then xk else c.gg f},?_,B,λa d=> ?_⟩,λa d=> ?_⟩
 .exact{
  M:=xm
  lv:=by rw[xo];exact(U g.x e.lv (by rw[e.B3];decide)).2
  B3:=(W _ e.lv).t e.B3
  Bn:=(u c.r e.GM (by rw[e.F0];decide) (by rw[e.F0];decide)).1.t e.Bn
  GM:=(u c.r e.GM (by rw[e.F0];decide) (by rw[e.F0];decide)).2
  F0:=(W _ e.GM).t e.F0
  Ac:=by rw[AdY];exact H.Ar λa d p=>⟨xc a (λxI=>p (by rw[xI];exact xA g.x e.lv (xh g.x e.lv (by rw[e.B3];decide)))),by grind⟩
  Ir:=λa p=>by grind
  Am:=e.Am.Ar λa d v=>u a d (by rw[e.Is a v];decide) (by rw[e.Is a v];decide)
  Is:=λa v=>(W a (e.Am.lv v)).t (e.Is a v)
  BC:=λm X E=>by
   by_cases xn:m<b.Ac.l
   .have E:b.Ac[m]? =A X:=by grind
    have xO:¬m=b.Ac.l:=by omega
    simp only[Ad xO];exact((e.BC m X E).Ar λa d k=>by have:=u a d (by intro b;rw[b]at k;exact k) (by intro b;rw[b]at k;exact k);grind)
   .have xR:m<b.Ac.l+1:=by grind
    have:m=b.Ac.l:=by omega
    subst this;have E:A {s with An:=s.An.set 0 P}=A X:=by grind
    cases E
    simp only[];exact xu.Ar λa d k=>by have:=u a d (by intro b;rw[b]at k;exact k) (by intro b;rw[b]at k;exact k);grind}
 .grind
 grind
def fN{b:CI}{h:G}{a:Ai}{y:D->T}{m:T->Prop}(k:B_ b h a y m){d:D}{i:Ab}(u:b.l[d]? =A i)(q:RT b.l i)(Y:a.Ac.l<=400)(f e g:K)(c:N):∃n z,W9 (pos 150) [.p b.x 0,.n d,.n f,.n e,.n g,.S (N.c c)] h=A (.n (EO b.l a d f e g c).2,n)/\B_ b n (EO b.l a d f e g c).1 z m/\Bo m h n/\∀p,p<a.Ac.l->z p=y p:=by
 have I:=k;obtain⟨xB,xc,S,rfl,xq⟩:=I;let⟨xb,o,Z,X,j,V,xa,xv⟩:=box h (.I 2 (N.c c))
 have xe:∀(s:F->G->R),bl (.p h.next 0) (h.V (.I (Bq (F.I (.S (N.c c)))) (F.I (.S (N.c c))))) s=s (.p xb 0) o:=Dy h (.I 2 (N.c c)) Z X;have l:=S.ext j;have xd:o.Ap b.x 2=A xc.cv:=Ay l.M 2;have x:=Cp l.Ac;rw[Ad0]at x;by_cases U:a.Ac.l=400
 .have v:EO b.l a d f e g c=(a,5):=by unfold EO;grind
  have t:(a.Ac.l:K)=400:=by omega
  refine⟨o,_,AZ B B ?_,by rw[v];exact k.ext j,P,P⟩;rw[v,aL.1];simp only[↓xe,↓Q,↓QT,↓H xd,↓H x,t]
 .have t:¬(a.Ac.l:K)=400:=by omega
  have w:EO b.l a d f e g c=(⟨a.Ac++[{Dl b.l i d f e g with An:=(Dl b.l i d f e g).An.set 0 c}],a.Am,a.round,a.AA⟩,0):=by unfold EO;rw[Ad U,AdR,u];rfl
  let⟨xy,xn,xC,xz,xx,xk,xm,xw,xl,xt,E,M,r⟩:=go u q f e g l.M l.lv a.Ac.l
  have xf:=k.V j;have xr:=q.hp;let⟨xh,xo,xi,xj,xp,W,xA,xs,xE,xG,xu,xF,J,xg⟩:=(k.ext j).Es r E M Y (by show 0<(BG i.An.n AO).l;grind) c
  have xD:=(r.M xa).t V;refine⟨W,_,AZ B B ?_,by rw[w];exact J,P,P⟩;rw[w,aL.1];simp only[QY,aL.2, *]
def Li(a:CI):Prop:=∃c,GU a.es c/\∀(d:BN)(b:D),CH a.l d=(b:K)->DV c d=A (.n (b:K))
def Li.Hw{a:CI}(f:Li a){b:G}{c:T}{m:D}(l:b.M c=A (.Bn a.es m)){e:BN}{d:D}(j:CH a.l e=d):EP Aa [2] (.n 0) Aa b [.m c,.s e]=A (.n d):=by
 let⟨n,k,i⟩:=f
 have g:O_ b (.m c)=A a.es:=by show(match HQ (b.M c)with|some (h,_)=>A h|none=>O)=_;rw[l];rfl
 rw[WN g k,i e d j];rfl
def Kw(b:C N)(c:N)(a:D):C N:=BG a c++b.d a
def n7{a:C N}{c:N}(d:b<=a.l):(Kw a c b).l=a.l:=by unfold Kw;grind
def n8{b:C N}{c:N}(d:a<b.l):(Kw b c a).set a c=Kw b c (a+1):=by
 unfold Kw;let⟨f,_,e⟩:=Ds d
 rw[e,Af3 _ _ (by grind),Afr,Afc,Afs,List.replicate_succ',AeN];rfl
def n6(a:C N)(b:N):Kw a b a.l=a.m λ_=>b:=by unfold Kw;rw[List.drop_of_length_le Om,Ad5,List.map_const']
def n9(a:C _)(b:N):Kw a b 0=a:=by simp[Kw]
def Jf{c:Ai}{d b:AK}(e:c.Ac[a]? =A d):(c.AJ a b).Ac[a]? =A b:=Aex P
def LX(c:Ai)(a:D)(d b:AK):(c.AJ a d).AJ a b=c.AJ a b:=by unfold Ai.AJ;rw[Ae5]
def NC{a:Ai}{c:AK}(e:a.Ac[b]? =A c):a.AJ b c=a:=by
 unfold Ai.AJ;have:a.Ac.set b c=a.Ac:=by
  refine AeP λd=> ?_;by_cases f:b=d;.grind
  .grind
 rw[this]
def rc{d:CI}{k:G}{r:Ai}{xE:D->T}{x:T->Prop}(V:B_ d k r xE x)(xR:Li d){g:A5}{c:D}(xC:g.FE=b)(xo:g.Ax=c)(u:Au)(a:N){j:AK}(E:r.Ac[b]? =A j){e:C N}(xB:j.AG[c]? =A e)(yl:e.l<1000000)(x7:r.Ac.l<=400)(x1:a.Ak≠5->∃(W:D)(X:Ab),CH d.l u.A8=W/\d.l[W]? =A X/\RT d.l X):∃M xc,W9 (pos 98) [.p d.x 0,.S (A5.c g),.S (Au.c u),.S (N.c a)] k=A (.n (Nb d.l r g u a).2,M)/\B_ d M (Nb d.l r g u a).1 xc x/\Bo x k M/\∀b,b<r.Ac.l->xc b=xE b:=by
 let⟨xp,S,x8,x3,xO,xV,xD,yp⟩:=box k (.I 2 (A5.c g))
 let⟨xF,xn,x9,x4,xf,xW,yf,yq⟩:=box S (.I 4 (Au.c u))
 obtain⟨y,m,ya,x5,xg,xx,yo,yr⟩:=box xn (.I 2 (N.c a));have xI:∀(J:F->G->R),bl (.p k.next 0) (k.V (.I (Bq (F.I (.S (A5.c g)))) (F.I (.S (A5.c g))))) J=J (.p xp 0) S:=Dy k (.I 2 (A5.c g)) x8 x3;have xJ:∀(J:F->G->R),bl (.p S.next 0) (S.V (.I (Bq (F.I (.S (Au.c u)))) (F.I (.S (Au.c u))))) J=J (.p xF 0) xn:=Dy S (.I 4 (Au.c u)) x9 x4;have xK:=Ko xn a ya x5;have U:=xO.AI (xf.AI xg);have xw:=(xg.M (xf.lv xD)).t ((xf.M xD).t xV);have xj:m.Ap xp 0=A (.n g.FE):=Ay xw 0;have xk:m.Ap xp 1=A (.n g.Ax):=Ay xw 1;have xG:m.AL y 0 2=A (N.c a):=BB xx;have Y:=Xb a;by_cases xl:a.Ak=5
 .rw[A0 xl]at Y;have xa:Nb d.l r g u a=(r.AJ b {j with AG:=j.AG.set c (e.m λ_=>a)},0):=by unfold Nb;rw[Ad (by grind),xC,xo];simp only[AdR,DK E,xB,Aeg]
  obtain⟨xd,p,z,rfl,xY⟩:=(V.V U);obtain⟨yj,yc,yh⟩:=z.Lf E;have xe:=z.BC b j E;have xy:c<j.AG.l:=by grind
  obtain⟨xT,xH⟩:=CD (f:=EE (p.og b)) (w:=1) (λ_=>B) xe.AG (F9 xy);have yg:m.Ap xT (c*1)=A (p.og b c):=by exact(xH.Ap (f:=EE (p.og b)) (λ_=>B) (F9 xy) (b:=0) (by grind))
  have ys:∀v,¬Lv k v->Lv m v->ES x k m v:=by grind
  have xP:ES x k m y:=by grind
  obtain⟨_,Z,xm,⟨xu,xh⟩⟩:=Dh (h:=e.l) (f:=λq _ k=>jj W9 98 2 [.n e.l,p.og b c,.p y 0,.n q] k)
   (g:=λq _ k=>EB xd k d.l d.es d.k d.x (r.AJ b {j with AG:=j.AG.set c (Kw e a q)}) p/\((∀v,ES x _ m v->Lv k v/\xd v=.C5)/\Bo (ES x _ m) m k))
   (λq _ M xA xQ=>by
    obtain⟨xv,x6,xt⟩:=xQ;have yk:=Cm xA;have xN:=xv.BC b _ (Jf E);have xz:({j with AG:=j.AG.set c (Kw e a q)}).AG[c]? =A (Kw e a q):=by grind
    obtain⟨yv,yb⟩:=Bb (b:=Kw e a q) (a:=q) (by rw[n7 (by omega)];grind);obtain⟨_,X,xX,_,_,yn,_,yu,xM,xr⟩:=xN.PP xz yb a;have xi:=xv.NI (Jf E) (t:=.AD b c) B xr xM;rw[LX]at xi;have x2:(AK.AD {j with AG:=j.AG.set c (Kw e a q)} c q a)={j with AG:=j.AG.set c (Kw e a (q+1))}:=by unfold AK.AD;rw[TK xz,n8 xA];simp only[Ae5]
    rw[x2]at xi;have xs:=xr.Fp (by grind) x6;have yt:M.AL y 0 2=A (N.c a):=BB ((xt y xP).t xx);refine⟨(),xX,?_,xi,xs.1,xt.AI xs.2⟩;rw[Py.2.2.2.1];simp only[QY,Py.2.2.2.2.1,Py.2.2.2.2.2,H (Bh (a:=q) (by omega)), *])
   (b:=()) (a:=m) (by
    rw[n9];have:j.AG.set c e=j.AG:=by
     refine AeP λyd=> ?_;by_cases xo:c=yd;.grind
     .grind
    rw[this];rw[NC E];grind)
  rw[n6]at xu;have xm:jj W9 98 2 [.n e.l,p.og b c,.p y 0,.n 0] m=jj W9 98 2 [.n e.l,p.og b c,.p y 0,.n e.l] Z:=xm;have xU:=CA e.l;refine⟨Z,p.pc,AZ B B ?_,by rw[xa];exact⟨xd,p,xu,B,P⟩,λv xb=>(xh.2 v P).t (U.M (V.C4 xb)),λ_ _=>B⟩;rw[xa,Py.1];rw[xC]at xj;rw[xo]at xk;simp only[↓xI,↓xJ,↓xK,↓Q,↓QT,↓H xG,↓Y.H B,QB,Py.2.1,↓H (Ay z.M 2:m.Ap d.x 2=A p.cv),↓H xj,↓H yc,↓H yh,↓H (Ay xe.M 5:m.Ap (p.pc b) 5=A (p.ov b)),↓H xk,↓H xH.ia,↓H yg,↓H (Cp (xe.AD c e xB).1)];rw[xm,Py.2.2.2.1];simp only[↓Q,↓QT,AdM,xU,Py.2.2.1]
 .rw[A2 xl]at Y;let⟨W,X,xZ,x0,xL⟩:=x1 xl
  have xa:Nb d.l r g u a=EO d.l r W g.FE g.Ax 0 a:=by unfold Nb;grind
  have xq:=V.ext U;let⟨xd,p,z,ym,xY⟩:=xq
  let⟨Z,xc,ye,yi,xh,xS⟩:=fN xq x0 xL x7 g.FE g.Ax 0 a
  refine⟨Z,xc,AZ B B ?_,by grind,λv xb=>(xh v xb).t (U.M (V.C4 xb)),xS⟩;rw[xa,Py.1];simp only[↓xI,↓xJ,↓xK,↓Q,↓QT,↓H xG,↓Y.H B,QB,↓H (Ay z.M 1:m.Ap d.x 1=A (.m p.r)),↓H (Ay ((xg.M yf).t xW) 1:m.Ap xF 1=A (.s u.A8)),↓H (xR.Hw z.Bn xZ),↓H xj,↓H xk,↓H ye]
