/- Part of the proof. -/
import Derived.Sort.LotA
import Derived.Sort.LotB
import Derived.Sort.LotC
import Derived.Test.YtbmnfifnenajjaaGreatNbh
set_option linter.all false
noncomputable section
open Option renaming some->A,none->O,getD->Option.g,bind->Option.b
open _root_ renaming rfl->B,List->C,Nat->D,Int->K,if_neg->Ad,if_pos->Af,Option->Ae,Bool->Ah,cond->Aj,decide_eq_true->A0,decide_eq_false->A2,Array->Bg,absurd->BF
open Bool renaming true->L,false->Aa
open Decidable renaming decide->Ao
open Nat renaming beq->AW,le_refl->CK
open List renaming replicate->BG,length->List.l,map->List.m,take->List.t,drop->List.d,flatMap->List.f
open Go.IntKind renaming i64->Go.IntKind.n
open Array renaming toList->Array.l,size->Array.z
open Eq renaming trans->Eq.t,symm->Eq.s
open Or renaming inl->Or.i,inr->Or.j
open Int renaming toNat->Int.n
namespace Go.Proofs.YtbmnfifnenajjaaGreat
open Go.Fg
variable{f:Ai}{h:D}
def Gc.of{j:C Ab}{g:Ai}{b i:D}{e c:AK}{d:Ab}{k:Au}(a:Gc j f h e b i c d k)(l:g.Ac[b]? =f.Ac[b]?):Gc j g h e b i c d k:=⟨a.AP,a.Ax,a.lt,l.t a.Cc,a.GZ,a.hn,a.op,a.CH⟩
variable{d:AK}{g:D}
def L7.of{e:Ai}{b:D}{c:AK}(a:L7 e g c b d)(h:f.Ac[b]? =e.Ac[b]?):L7 f g c b d:=⟨a.next,a.lt,h.t a.Cc,a.Bc,a.AP,a.Ax,a.Az⟩
def CF.of{h:C Ab}{g:Ai}(c:CF h f)(n:g.Ac=f.Ac):CF h g where
 A7:=by rw[n];exact c.A7
 BC:=λb a d=>c.BC b a (by grind)
 up:=λb a d=>by
  rcases c.up b a (by grind)with e|⟨q,o,k,l,p,j⟩;.omega
  .exact .j ⟨q,o,k,l,p,j.of (by grind)⟩
 next:=λb a d=>by
  rcases c.next b a (by grind)with e|⟨e,m,i⟩;.omega
  .exact .j ⟨e,m,i.of (by grind)⟩
 Az:=λb a d=>c.Az b a (by grind)
 K_:=λb a d=>c.K_ b a (by grind)
def CF.RH{s:C Ab}(k:CF s f){j:D}{h:AK}(g:f.Ac[j]? =A h){t:K}{e:D}{d:AK}(x:L7 f j {h with next:=t} e d):CF s (f.AJ j {h with next:=t})where
 A7:=by show(f.Ac.set j _).l<=400;rw[Aed];exact k.A7
 BC:=λc d a=>by
  rcases Ik g a with⟨rfl,rfl⟩|⟨_,a⟩;.obtain⟨o,l,u⟩:=k.BC c h g;exact⟨o,l,u.En ⟨B,B,B,B,B,B,B,B⟩⟩
  .exact k.BC c d a
 up:=λc d a=>by
  have r:∀i:AK,(i.AP= -1\/∃m p o l q,Gc s f c i m p o l q)->(i.AP= -1\/∃m p o l q,Gc s (f.AJ j {h with next:=t}) c i m p o l q):=by
   rintro i (e|⟨m,p,o,l,q,b⟩)
   .omega
   .right;by_cases v:m=j;.subst v;have E:=Aew (b.Cc.s.t g);subst E;obtain⟨e,u⟩:=b.GZ;exact⟨m,p,_,l,q,b.AP,b.Ax,b.lt,Jf g,⟨e,u.En ⟨B,B,B,B,B,B,B,B⟩⟩,b.hn,b.op,b.CH⟩
    .exact⟨m,p,o,l,q,b.of (by show(f.Ac.set j _)[m]? =_;grind)⟩
  rcases Ik g a with⟨rfl,rfl⟩|⟨_,a⟩
  .rcases r h (k.up c h g)with e|⟨m,p,o,l,q,b⟩;.grind
   .exact .j ⟨m,p,o,l,q,b.AP,b.Ax,b.lt,b.Cc,b.GZ,b.hn,b.op,b.CH⟩
  .exact r d (k.up c d a)
 next:=λc y a=>by
  have r:∀i:AK,(i.next= -1\/∃e d,L7 f c i e d)->(i.next= -1\/∃e d,L7 (f.AJ j {h with next:=t}) c i e d):=by
   rintro i (F|⟨w,z,n⟩)
   .omega
   .right;by_cases v:w=j;.rw[(Aew (n.Cc.s.t (by grind)):z=h),v]at n;exact⟨j,_,n.next,n.lt,Jf g,n.Bc,n.AP,n.Ax,n.Az⟩
    .exact⟨w,z,n.of (by show(f.Ac.set j _)[w]? =_;grind)⟩
  rcases Ik g a with⟨rfl,rfl⟩|⟨_,a⟩;.exact .j ⟨e,d,x.of (by show(f.Ac.set c _)[e]? =_;rw[AeJ (by have:=x.lt;omega)])⟩
  .exact r y (k.next c y a)
 K_:=λc d a e=>by
  rcases Ik g a with⟨rfl,rfl⟩|⟨_,a⟩;.exact k.K_ c h g e
  .exact k.K_ c d a e
 Az:=λc d a=>by
  rcases Ik g a with⟨rfl,rfl⟩|⟨_,a⟩;.exact k.Az c h g
  .exact k.Az c d a
def CF.Km{k:C Ab}{d:Ai}(l:CF k d){g:AK}{u:C AE}{w q:K}(z:d.Ac.l<400)(y:∃e f,Dw k e f g)(r:∃j h e f i,Gc k d d.Ac.l g j h e f i)(E:g.next= -1)(F:0<=g.Az/\g.Az<=(d.Ac.l:K)):CF k ⟨d.Ac++[g],u,w,q⟩:=by
 have v:∀{a:D},a<d.Ac.l->(d.Ac++[g])[a]? =d.Ac[a]? :=P;have m:∀{a:D}{b:AK},(d.Ac++[g])[a]? =A b->(a<d.Ac.l/\d.Ac[a]? =A b)\/(a=d.Ac.l/\b=g):=P;have t:∀{a:D}{b:AK},d.Ac[a]? =A b->a<d.Ac.l:=P;exact{
  A7:=by grind
  BC:=λa b c=>by
   rcases m c with⟨_,c⟩|⟨_,rfl⟩;.exact l.BC a b c
   omega
  up:=λa b c=>by
   have s:∀{a b},(b.AP= -1\/∃j h e f i,Gc k d a b j h e f i)->(b.AP= -1\/∃j h e f i,Gc k ⟨d.Ac++[g],u,w,q⟩ a b j h e f i):=by
    rintro a b (n|⟨j,h,e,f,i,o⟩)
    .omega
    .exact .j ⟨j,h,e,f,i,o.of (v (t o.Cc))⟩
   rcases m c with⟨_,c⟩|⟨rfl,rfl⟩;.exact s (l.up a b c)
   .exact s (.j r)
  K_:=λa b c n=>by
   rcases m c with⟨_,c⟩|⟨rfl,rfl⟩;.exact l.K_ a b c n
   .let⟨j,h,e,f,i,o⟩:=r
    have:=o.AP;omega
  next:=λa b c=>by
   rcases m c with⟨_,c⟩|⟨rfl,rfl⟩
   .rcases l.next a b c with n|⟨n,x,p⟩;.omega
    .exact .j ⟨n,x,p.of (v (t p.Cc))⟩
   omega
  Az:=λa b c=>by
   rcases m c with⟨_,c⟩|⟨rfl,rfl⟩;.exact l.Az a b c
   omega}
variable{e:D}
def Vi{d:C Ab}(i:BD d){b:Ab}(k:d[e]? =A b)(n m o:K)(j:C N)(l:(j.l:K)=b.An):Dw d e b {Dl d b e n m o with An:=j}where
 ha:=B
 hb:=k
 An:=l
 AG:=by show(List.map _ b.Av).l=_;grind
 AS:=by show(BG _ _).l=_;grind
 A4:=by show(List.map _ b.Av).l=_;grind
 AD:=λg c h f a=>by
  have a:(b.Av.m λc=>BG (C7 d c).n AO)[g]? =A h:=a;rw[Aeo,f]at a;cases a
  have:=Rs i c;grind
 B1:=λg c h f a=>by
  have a:(b.Av.m λc=>BG (C7 d c).n EQ)[g]? =A h:=a;rw[Aeo,f]at a;cases a
  have:=Rs i c;grind
def br{a:Ab}(c:1<=a.An)(b:N):(((BG a.An.n AO).set 0 b).l:K)=a.An:=by grind
structure Hk(c d:Ai):Prop where
 A7:d.Ac.l=c.Ac.l
 Cc:∀(e:D) a,c.Ac[e]? =A a->∃b,d.Ac[e]? =A b/\DQ a b/\b.next=a.next
def Hk.refl(b:Ai):Hk b b:=⟨B,λd a c=>⟨a,c,DQ.refl a,B⟩⟩
variable{c:Ai}
def Hk.AJ{b a:AK}(h:c.Ac[e]? =A b)(k:DQ b a)(i:a.next=b.next):Hk c (c.AJ e a):=⟨Aed,λj f d=>by
 by_cases g:e=j;.subst g;rw[h]at d;cases d;exact⟨a,Jf h,k,i⟩
 .exact⟨f,RA d g,DQ.refl f,B⟩⟩
variable{a:Ai}
def T7{c:C Ab}{b:AK}(d:a.Ac[e]? =A b):Hk a (Cj c a e).1/\(CF c a->CF c (Cj c a e).1):=by
 unfold Cj;simp only[DK d];split;.exact⟨Hk.refl a,id⟩
 .have:=ME (Bs (a.at b.AP.n)) (QF c (a.at b.AP.n) b.Ax.n) b (QF c (a.at b.AP.n) b.Ax.n).l;exact⟨Hk.AJ d P Om,λf=>f.AJ d P Om⟩
def dv{i:C Ab}{f:D}{b:AK}(h:a.Ac[f]? =A b)(g:D->N)(d:D)(c:BA)(e:D):Hk a (a.AJ f (Ce g d c b e).1)/\(CF i a->CF i (a.AJ f (Ce g d c b e).1)):=by have:=Ub g d c b e;exact⟨Hk.AJ h P Om,λj=>j.AJ h P Om⟩
def Uw{b:C Ab}{c f:D}{g:AK}(h:a.Ac[c]? =A d)(i:d.AP=(f:K))(e:a.Ac[f]? =A g):Hk a (EU b a c).1/\(CF b a->CF b (EU b a c).1):=by unfold EU;simp only[DK h,i,AdR,DK e];exact dv e _ _ _ _
def Aai{e:C Ab}{b f:D}{c h:AK}(i:a.Ac[b]? =A c)(j:c.AP=(f:K))(d:a.Ac[f]? =A h)(g:N):Hk a (JI a b g).1/\(CF e a->CF e (JI a b g).1):=by unfold JI;simp only[DK i,j,AdR,DK d];exact dv d _ _ _ _
structure IT(c d:Ai):Prop where
 A7:c.Ac.l<=d.Ac.l
 Cc:∀(e:D) a,c.Ac[e]? =A a->∃b,d.Ac[e]? =A b/\DQ a b
variable{b:Ai}
def Hk.Oe(c:Hk a b):IT a b:=⟨by rw[c.A7];omega,λf d e=>by obtain⟨i,g,h,_⟩:=c.Cc f d e;grind⟩
def IT.refl(a:Ai):IT a a:=(Hk.refl a).Oe
def IT.AI(d:IT a b)(f:IT b c):IT a c:=⟨Aem d.A7 f.A7,λe l g=>by obtain⟨m,h,j⟩:=d.Cc e l g;obtain⟨n,i,k⟩:=f.Cc e m h;exact⟨n,i,j.AI k⟩⟩
def uy{b:C Ab}{c f:AK}(i:a.Ac[e]? =A c)(j:c.next=(g:K))(d:a.Ac[g]? =A f):Hk a (Gv b a e).1/\(CF b a->CF b (Gv b a e).1):=by unfold Gv;simp only[DK i,j,AdR,DK d];have:=ME (Bs c) (F4 b c).A_ f (F4 b c).A_.l;exact⟨Hk.AJ d P Om,λh=>h.AJ d P Om⟩
def XN{c:C Ab}(q:BD c)(k:CF c b){F y:D}{a s:AK}{t:Ab}{E:Au}(l:b.Ac[e]? =A a)(h:Gc c b e a F y s t E){i:D}{g:Ab}(j:Dw c i g a):IT b (Gu c b e).1/\CF c (Gu c b e).1/\((Gu c b e).2.2=0->∃u z v,(Gu c b e).1.Ac[e]? =A u/\L7 (Gu c b e).1 e u z v):=by
 have S:e<b.Ac.l:=P;unfold Gu;simp only[DK l];by_cases o:a.next= -1
 .rw[Af o];by_cases M:b.Ac.l=400
  .have N:EO c b a.Bc a.AP a.Ax (a.Az+1) (Et c a)=(b,5):=by unfold EO;grind
   rw[N];have:((5:K)≠0):=by omega
   rw[Af this];exact⟨IT.refl b,k,P⟩
  .have Q:EO c b a.Bc a.AP a.Ax (a.Az+1) (Et c a)=(⟨b.Ac++[{Dl c g i a.AP a.Ax (a.Az+1)with An:=(BG g.An.n AO).set 0 (Et c a)}],b.Am,b.round,b.AA⟩,0):=by
    unfold EO;rw[Ad M,j.ha,AdR,j.hb]
   rw[Q]
   have J:¬((0:K)≠0):=by omega
   rw[Ad J]
   have H:=q.Bc i g j.hb
   have V:=k.Az e a l
   have U:=k.A7
   have I:=k.Km (g:={Dl c g i a.AP a.Ax (a.Az+1)with An:=(BG g.An.n AO).set 0 (Et c a)}) (u:=b.Am) (w:=b.round) (q:=b.AA) (by omega) ⟨i,g,Vi q j.hb _ _ _ _ (br H.An.1 _)⟩ ⟨F,y,s,t,E,h.AP,h.Ax,by have:=h.lt;omega,h.Cc,h.GZ,h.hn,h.op,h.CH.t j.ha⟩ B (by show 0<=a.Az+1/\a.Az+1<=_;omega)
   have p:(⟨b.Ac++[{Dl c g i a.AP a.Ax (a.Az+1)with An:=(BG g.An.n AO).set 0 (Et c a)}],b.Am,b.round,b.AA⟩:Ai).Ac[e]? =A a:=by grind
   have R:(⟨b.Ac++[{Dl c g i a.AP a.Ax (a.Az+1)with An:=(BG g.An.n AO).set 0 (Et c a)}],b.Am,b.round,b.AA⟩:Ai).Ac[b.Ac.l]? =A {Dl c g i a.AP a.Ax (a.Az+1)with An:=(BG g.An.n AO).set 0 (Et c a)}:=by grind
   have n:L7 _ e {a with next:=(b.Ac.l:K)} b.Ac.l _:=⟨B,S,R,j.ha.s,B,B,B⟩
   refine⟨⟨?_,λT G x=> ?_⟩,I.RH p n,λ_=>⟨_,_,_,Jf p,n.of ?_⟩⟩
   .show _<=((b.Ac++_).set e _).l;grind
   .by_cases w:e=T;.subst w;rw[l]at x;cases x;exact⟨_,Jf p,⟨B,B,B,B,B,B,B,B⟩⟩
    .refine⟨G,RA ?_ w,DQ.refl G⟩;grind
   .show((b.Ac++_).set e _)[b.Ac.l]? =_;grind
 .rw[Ad o];refine⟨IT.refl b,k,λ_=> ?_⟩;obtain⟨z,v,n⟩:=(k.next e a l).resolve_left o;grind
def uC{a:C Ab}(n:BD a)(g:CF a b){c v s:D}{o:AK}{p:Ab}{u:Au}(f:b.Ac[c]? =A d)(e:Gc a b c d v s o p u){t:D}{q:Ab}(j:Dw a t q d):IT b (ER a b c).1/\CF a (ER a b c).1:=by
 unfold ER;simp only[DK f];split;.exact⟨IT.refl b,g⟩
 .split;.have:=Aai (e:=a) f e.AP e.Cc (Et a d);exact⟨this.1.Oe,P⟩
  .obtain⟨k,w,m⟩:=XN n g f e j;split;.grind
   .rename_i i;have i:(Gu a b c).2.2=0:=Om;obtain⟨x,z,y,r,h⟩:=m i;have:=uy (b:=a) r h.next h.Cc;exact⟨k.AI this.1.Oe,P⟩
def rq{b:C Ab}(s:BD b)(j:CF b c){a:D}{n:AK}(g:c.Ac[a]? =A n):IT c (El b c a).1/\CF b (El b c a).1:=by
 unfold El;simp only[DK g];split;.exact⟨IT.refl c,j⟩
 .rename_i I;obtain⟨e,w⟩:=T7 (c:=b) g;have k:=w j;obtain⟨o,h,q,_⟩:=e.Cc a n g;obtain⟨R,J,z,F,P,m⟩:=(k.up a o h).resolve_left (by rw[q.AP];omega);obtain⟨f,x⟩:=Uw (b:=b) h m.AP m.Cc;have d:=x k;split;.exact⟨e.Oe.AI f.Oe,d⟩
  .split;.exact⟨e.Oe.AI f.Oe,d⟩
   .obtain⟨p,i,y,_⟩:=f.Cc a o h;obtain⟨S,M,E,G,Q,u⟩:=(d.up a p i).resolve_left (by rw[y.AP,q.AP];omega);obtain⟨N,H,r⟩:=d.BC a p i;obtain⟨v,t⟩:=uC s d i u r;exact⟨e.Oe.AI (f.Oe.AI v),t⟩
def DC(b:CI)(d:G)(c:Ai)(a:T->Prop):Prop:=∃e,B_ b d c e a
def DC.ext{c:CI}{e f:G}{d:Ai}{b:T->Prop}(a:DC c e d b)(g:AH e f):DC c f d b:=by let⟨h,a⟩:=a;exact⟨h,a.ext g⟩
def DC.V{e:CI}{b c:G}{d:T->Prop}(a:DC e b f d)(g:AH b c):DC e c f (ES d b c):=by let⟨h,a⟩:=a;exact⟨h,a.V g⟩
def DC.sub{d:CI}{f:G}{e:Ai}{b c:T->Prop}(a:DC d f e b)(h:∀g,c g->b g):DC d f e c:=by let⟨i,a⟩:=a;exact⟨i,a.sub h⟩
def DC.C4{e:CI}{c:G}{b:T->Prop}(a:DC e c f b){d:T}(g:b d):Lv c d:=by let⟨h,a⟩:=a;exact a.C4 g
def rf{b:CI}(v:BD b.l){h:G}{u:T->Prop}(j:DC b h f u)(w:CF b.l f){a:D}(xi:a<f.Ac.l):∃y,W9 (pos 102) [.p b.x 0,.n a] h=A (.AB [.b (El b.l f a).2.1,.n (El b.l f a).2.2],y)/\DC b y (El b.l f a).1 u/\Bo u h y:=by
 let⟨xS,j⟩:=j
 let⟨d,c⟩:=Bb xi
 have Y:=j;obtain⟨xT,i,k,rfl,xG⟩:=Y;have xs:=Ay k.M 2;let⟨xD,xk,xp⟩:=k.Lf c
 have xg:=Ay (k.BC a d c).M 1;let⟨W,g,e⟩:=w.BC a d c
 unfold El;simp only[DK c];by_cases q:d.AP= -1
 .rw[Af q];have X:h.Ap b.x 0=A (Z Ab.c b.l):=Ay k.M 0;have R:h.Ap (i.pc a) 0=A (.n W):=by rw[Ay (k.BC a d c).M];show A (F.n d.Bc)=_;rw[e.ha]
  refine⟨h,AZ B B ?_,⟨i.pc,j⟩,P⟩;rw[Nj.1];by_cases p:(g.A_.l:K)=0<;>simp only[QY,Nj.2.1,H (CB e.hb), *]
 rw[Ad q];let⟨xP,xI,xx,xA,xM,xe⟩:=(w.up a d c).resolve_left q
 let⟨xF,xl,xa,xu⟩:=pB v j c xe e
 let⟨xc,xq⟩:=T7 (c:=b.l) c
 have M:=xq w;let⟨S,r,s,_⟩:=xc.Cc a d c
 let⟨xQ,xJ,xy,xB,xN,x⟩:=(M.up a S r).resolve_left (by rw[s.AP];grind)
 have I:=e.En s;let⟨m,xm,n,xv⟩:=pC v xa r x I
 let⟨xd,xr⟩:=Uw (b:=b.l) r x.AP x.Cc
 have N:=xr M;by_cases U:(EU b.l (Cj b.l f a).1 a).2.2=0
 .rw[Ad (by grind)];let⟨o,z,E,_⟩:=xd.Cc a S r
  have J:=I.En E;rw[e.Ca];let⟨xU,xV,Q,xj,xH⟩:=n
  have X:=Q.M;have t:=Q.BC a o z;rw[xj]at t;have R:m.Ap (i.pc a) 0=A (.n W):=by rw[Ay t.M];show A (F.n o.Bc)=_;rw[J.ha]
  have xE:m.Ap (i.pc a) 1=A (.n d.AP):=by rw[Ay t.M];show A (F.n o.AP)=_;rw[E.AP,s.AP]
  have xn:AM m [.pi ((Ab.c g).d 3)]=A (Z AF.c g.A_):=B;by_cases p:g.A_.l=0
  .rw[Af p];have V:(g.A_.l:K)=0:=by omega
   refine⟨m,AZ B B ?_,⟨i.pc,n⟩,P⟩;rw[Nj.1];simp only[QY,xn,LR,xs,xk,xp,xg,q,xl,xm,U,Nj.2.2.1,Nj.2.1,X,R,CB e.hb,V]
  .rw[Ad p];have V:¬(g.A_.l:K)=0:=by omega
   let⟨xR,xK,xz,xC,xO,xf⟩:=(N.up a o z).resolve_left (by rw[E.AP,s.AP];grind)
   let⟨xh,xo,xL,xb,xw,xt⟩:=pD v n z xf J p N
   refine⟨xh,AZ B B ?_,⟨xo,xb⟩,P⟩;rw[Nj.1];simp only[QY,LR,Nj.2.2.1,Nj.2.1,H (CB e.hb),Nj.2.2.2, *]
 .rw[Af U];refine⟨m,AZ B B ?_,⟨i.pc,n⟩,P⟩;rw[Nj.1];simp only[QY, *]
def hS{o:Type}{e:C o}{g:o->Ah}{f:D->G->R}{k:G->R}{m:F}{d:G->Prop}(x:∀c h a,e[c]? =A h->d a->g h=L->∃b,f c a=f (c+1) b/\d b)(r:∀c h a,e[c]? =A h->d a->g h=Aa->∃b,f c a=A (m,b)/\d b)(q:∀a,d a->f e.l a=k a):∀a,d a->(e.all g=L->∃b,f 0 a=k b/\d b)/\(e.all g=Aa->∃b,f 0 a=A (m,b)/\d b):=by
 have p:∀j c a,e.l-c=j->c<=e.l->d a->((e.d c).all g=L->∃b,f c a=k b/\d b)/\((e.d c).all g=Aa->∃b,f c a=A (m,b)/\d b):=by
  intro j
  induction j with
  |zero=>grind
  |succ j w=>
   intro c a u t n;let⟨h,v,s⟩:=Ds (b:=e) (a:=c) (by omega)
   grind
 intro a n;have:=p e.l 0 a (by omega) (by omega) n;grind
def ij{J:CI}(xf:BD J.l){xr:T->Bm}{q:G}{xm:D}{r:T}{o:AK}{xq xp xg xi:F}{xo xh:D->F}(E:C6 xr q xm r o xq xp xg xi xo xh){xa:D}{b:Ab}(u:Dw J.l xa b o){c:D}{a:Au}(m:b.Av[c]? =A a){j:G}(xd:AH q j)(s t v x:F):(HB o a=Aa->∃k,jj W9 103 4 [.n b.Av.l,Z Au.c b.Av,.p r 0,.n c,s,t,v,x] j=jj W9 103 4 [.n b.Av.l,Z Au.c b.Av,.p r 0,.n (c+1:D),s,t,v,x] k/\AH q k)/\(HB o a=L->∃k,jj W9 103 4 [.n b.Av.l,Z Au.c b.Av,.p r 0,.n c,s,t,v,x] j=A (.n 6,k)/\AH q k):=by
 have xk:c<b.Av.l:=by grind
 have z:=xf.Bc xa b u.hb;have xx:=z.Av;have w:=z.Ax c a m;have xv:=Cm xk;let⟨xF,R,xl,xj,xe,y,xn,xE⟩:=box j (.I 4 (Au.c a))
 let⟨xH,xG⟩:=EL j (b:=4) [(.i .u8 0),(.s []),(.n 0),.sn] (c:=Au.c a) xl xj B B
 have xs:=y;have d:=xd.AI xe;unfold HB;by_cases M:a.op=6
 .have xw:=w.M3 Om;let⟨f,V⟩:=Bb (b:=a.A3) (a:=0) (by omega)
  let⟨g,W⟩:=Bb (b:=a.A3) (a:=1) (by omega)
  let⟨xb,X⟩:=u.Eo (w.A3 f P)
  let⟨xc,Y⟩:=u.Eo (w.A3 g P)
  rw[A0 M,Aep,V,W,Aeg,Aeg,OP X,OP Y];have xt:=y;have xy:AR 2 [Z AF.c a.A3,.n 0]=A (.pi (AF.c f)):=IE (a:=0) V;have xz:AR 2 [Z AF.c a.A3,.n 1]=A (.pi (AF.c g)):=IE (a:=1) W;have xC:A9 2 R [.pi (AF.c f)]=A (.S (AF.c f)):=B;let⟨S,xA,e⟩:=Nc (E.ext d) f X
  have h:=MD xb;by_cases N:xb.Ak=0;.rw[A0 N]at h⊢;refine⟨λ_=>⟨S,?_,d.AI e⟩,P⟩;rw[I_.2.2.2.2.2.1];simp only[QY,I_.2.2.2.2.2.2.1,H (Fa m),h.H B,QB,I_.2.2.2.2.2.2.2,H (Bh (a:=c) (by omega)), *]
  .rw[A2 N]at h⊢;have xu:=(e.M xn).t y;have xD:A9 2 S [.pi (AF.c g)]=A (.S (AF.c g)):=B;let⟨U,xB,I⟩:=Nc (E.ext (d.AI e)) g Y
   have p:=MD xc;by_cases Q:xc.Ak=0;.rw[A0 Q]at p⊢;refine⟨λ_=>⟨U,?_,d.AI (e.AI I)⟩,P⟩;rw[I_.2.2.2.2.2.1];simp only[QY,I_.2.2.2.2.2.2.1,H (Fa m),h.H B,p.H B,QB,I_.2.2.2.2.2.2.2,H (Bh (a:=c) (by omega)), *]
   .rw[A2 Q]at p⊢;refine⟨P,λ_=>⟨U,?_,d.AI (e.AI I)⟩⟩;rw[I_.2.2.2.2.2.1];simp only[QY,I_.2.2.2.2.2.2.1,H (Fa m),h.H B,p.H B,QB, *]
 .rw[A2 M,AeO];refine⟨λ_=>⟨R,?_,d⟩,P⟩;rw[I_.2.2.2.2.2.1];simp only[QY,I_.2.2.2.2.2.2.1,H (Fa m),I_.2.2.2.2.2.2.2,H (Bh (a:=c) (by omega)), *]
def df{d:Type}(b:d->Ah)(a:C _):a.any b= !(a.all λc=> !b c):=by grind
def o5{c:CI}(N:BD c.l){g:G}{e:Ai}{W:T->Prop}(X:DC c g e W)(S:CF c.l e):∃a,W9 (pos 103) [.p c.x 0] g=A (.n (PC c.l e),a)/\AH g a:=by
 obtain⟨xk,xl,f,v,rfl,xf⟩:=X
 have V:=Cp v.Ac
 rw[Ad0]at V
 have xg:=S.A7
 have xb:∀(b:D) d a,e.Ac[b]? =A d->AH g a->∃t h,Dw c.l t h d/\jj W9 103 2 [.n e.Ac.l,f.cv,.p c.x 0,.n b] a=jj W9 103 4 [.n h.Av.l,Z Au.c h.Av,.p (f.pc b) 0,.n 0,.n b,.n e.Ac.l,f.cv,.p c.x 0] a:=by
  intro b d a o u;have U:b<e.Ac.l:=by grind
  have xe:=Cm U;let⟨t,h,m⟩:=S.BC b d o
  have w:=v.ext u;let⟨xc,xj,xm⟩:=w.Lf o
  have xo:=w.M;have xd:a.Ap (f.pc b) 0=A (.n t):=by rw[Ay (w.BC b d o).M];show A (F.n d.Bc)=_;rw[m.ha]
  refine⟨t,h,m,?_⟩;rw[I_.2.2.1];simp only[QY,I_.2.2.2.1,H (CB m.hb), *]
 have xi:∀(b:D) d a,e.Ac[b]? =A d->AH g a->((F4 c.l d).Av.any (HB d)=Aa->∃j,jj W9 103 2 [.n e.Ac.l,f.cv,.p c.x 0,.n b] a=jj W9 103 2 [.n e.Ac.l,f.cv,.p c.x 0,.n (b+1:D)] j/\AH g j)/\((F4 c.l d).Av.any (HB d)=L->∃j,jj W9 103 2 [.n e.Ac.l,f.cv,.p c.x 0,.n b] a=A (.n 6,j)/\AH g j):=by
  intro b d a o u;have U:b<e.Ac.l:=by grind
  let⟨t,h,m,Y⟩:=xb b d a o u
  have M:=v.BC b d o;rw[m.Ca,Y];have k:=hS (e:=h.Av) (g:=λz=> !HB d z) (f:=λk a=>jj W9 103 4 [.n h.Av.l,Z Au.c h.Av,.p (f.pc b) 0,.n k,.n b,.n e.Ac.l,f.cv,.p c.x 0] a) (k:=λa=>jj W9 103 3 [.n b,.n e.Ac.l,f.cv,.p c.x 0] a) (m:=.n 6) (d:=λa=>AH g a)
   (λk z a y r xa=>(ij N M m y r _ _ _ _).1 (by grind))
   (λk z a y r xa=>(ij N M m y r _ _ _ _).2 (by grind))
   (λa r=>by show jj W9 103 4 _ _=_;rw[I_.2.2.2.2.2.1];simp only[↓Q,↓QT,AdM,(CA h.Av.l)])
   a u
  rw[df];constructor
  .intro x;let⟨j,s,q⟩:=k.1 (by grind)
   refine⟨j,?_,q⟩;have s:jj W9 103 4 [.n h.Av.l,Z Au.c h.Av,.p (f.pc b) 0,.n 0,.n b,.n e.Ac.l,f.cv,.p c.x 0] a=jj W9 103 3 [.n b,.n e.Ac.l,f.cv,.p c.x 0] j:=s;rw[s,I_.2.2.2.2.1];simp only[↓Q,↓H (Bh (a:=b) (by omega))]
  grind
 have k:=hS (e:=e.Ac) (g:=λd=> !(F4 c.l d).Av.any (HB d)) (f:=λb a=>jj W9 103 2 [.n e.Ac.l,f.cv,.p c.x 0,.n b] a) (k:=λa=>A (.n 0,a)) (m:=.n 6) (d:=λa=>AH g a)
  P
  P
  (λa r=>by show jj W9 103 2 _ _=_;rw[I_.2.2.1];simp only[↓Q,↓QT,AdM,(CA e.Ac.l),I_.2.1])
  g (AH.refl g)
 have xn:∀{J:R},jj W9 103 2 [.n e.Ac.l,f.cv,.p c.x 0,.n 0] g=J->xx W9 103 [.p c.x 0] g=J:=λ{J} xh=>by rw[I_.1];simp only[QY,v.M,V];grind
 unfold PC
 rw[df]
 cases x:e.Ac.all λd=> !(F4 c.l d).Av.any (HB d)with
 |true=>
  let⟨a,s,q⟩:=k.1 x
  exact⟨a,AZ B B P,q⟩
 |false=>
  let⟨a,s,q⟩:=k.2 x
  exact⟨a,AZ B B P,q⟩
theorem Rx(b:C _)(c:Ai)(a:D):B9 b c (a+1)=if(B9 b c a).2.2≠0\/¬a<(B9 b c a).1.Ac.l then B9 b c a
 else((El b (B9 b c a).1 a).1,(B9 b c a).2.1||(El b (B9 b c a).1 a).2.1,(El b (B9 b c a).1 a).2.2):=rfl
def Vy{d:C _}{c:Ai}{a:D}(e:(B9 d c a).2.2≠0\/¬a<(B9 d c a).1.Ac.l):∀b,a<=b->B9 d c b=B9 d c a
 |0,f=>by grind
 |b+1,f=>by
  by_cases g:a=b+1;.grind
  .rw[Rx,(Vy e b (by omega)),Af];omega
def Vz{b:C Ab}(d:BD b){a:Ai}(e:CF b a):∀c,IT a (B9 b a c).1/\CF b (B9 b a c).1
 |0=>⟨IT.refl a,e⟩
 |c+1=>by
  let⟨f,k⟩:=Vz d e c
  rw[Rx];split;.grind
  .rename_i h;let⟨m,i⟩:=Bb (AdS λj=>h (.j j))
   let⟨g,l⟩:=rq d k i
   exact⟨f.AI g,l⟩
def ar{d:C Ab}(e:BD d){g:D}:∀{h:D}{b:Ai}{c:Ai×K},CF d b->IF d g h b=A c->IT b c.1/\CF d c.1
 |0,b,c,f,a=>by cases a
 |h+1,b,c,f,a=>by
  unfold IF at a;let⟨i,k⟩:=Vz e f g
  split at a;.grind
  .split at a
   .let⟨j,l⟩:=ar e k a
    exact⟨i.AI j,l⟩
   grind
def au{a:C Ab}(h:BD a){f:D}{c:Ai×K}(i:CF a b)(d:Ib a f g b=A c):IT b c.1/\CF a c.1:=by
 unfold Ib at d
 cases e:IF a f g b with
 |none=>grind
 |some j=>rw[e]at d;have:=ar h i e;grind
def u_{a:CI}(u:BD a.l){f:D}(xa:f=400){j:G}{g:T->Prop}(J:DC a j b g)(x:CF a.l b):∃d,(((B9 a.l b f).2.2=0/\jj W9 54 3 [.n 0,.b Aa,.p a.x 0] j=jj W9 54 2 [.b (B9 a.l b f).2.1,.p a.x 0] d)\/((B9 a.l b f).2.2≠0/\jj W9 54 3 [.n 0,.b Aa,.p a.x 0] j=A (.n (B9 a.l b f).2.2,d)))/\DC a d (B9 a.l b f).1 g/\Bo g j d:=by
 have U:=MU (f:=f) (d:=λc _ d=>jj W9 54 3 [.n c,.b (B9 a.l b c).2.1,.p a.x 0] d)
  (e:=λc _ d=>(B9 a.l b c).2.2=0/\DC a d (B9 a.l b c).1 g/\Bo g j d)
  (g:=λE=>∃d,(((B9 a.l b f).2.2=0/\E=jj W9 54 2 [.b (B9 a.l b f).2.1,.p a.x 0] d)\/((B9 a.l b f).2.2≠0/\E=A (.n (B9 a.l b f).2.2,d)))/\DC a d (B9 a.l b f).1 g/\Bo g j d)
  (λc _ d Z r=>by
   let⟨t,m,v⟩:=r
   let⟨V,W,X,o,S,N⟩:=m
   have xc:=o.M;have q:=Cp o.Ac;rw[Ad0]at q;by_cases R:c<(B9 a.l b c).1.Ac.l
   .have p:c<((B9 a.l b c).1.Ac.l:K):=by omega
    let⟨z,xb,M,Y⟩:=rf u m (Vz u x c).2 R
    have w:=Rx a.l b c;rw[Ad (by grind)]at w;by_cases y:(El a.l (B9 a.l b c).1 c).2.2=0
    .left;refine⟨(),z,?_,?_⟩;.show jj _ _ 3 _ _=jj _ _ 3 _ _;rw[w,K6.2.2.2.2.1];simp only[QY,LR,p,K6.2.2.2.2.2.1,y,K6.2.2.2.2.2.2.2,K6.2.2.2.2.2.2.1,H (Bh (a:=c) (by omega)), *]
     grind
    .right;rw[(Vy (d:=a.l) (c:=b) (a:=c+1) P f (by omega)),w];refine⟨z,.j ⟨y,?_⟩,M,P⟩;show jj W9 54 3 _ _=_;rw[K6.2.2.2.2.1];simp only[QY,K6.2.2.2.2.2.1, *]
   .right;have p:¬c<((B9 a.l b c).1.Ac.l:K):=by omega
    rw[(Vy (d:=a.l) (c:=b) (a:=c) Om f (by omega))];refine⟨d,.i ⟨t,?_⟩,m,v⟩;show jj W9 54 3 _ _=_;rw[K6.2.2.2.2.1];simp only[QY, *])
  (λ_ d r=>by
   let⟨t,m,v⟩:=r
   let⟨V,W,X,o,S,N⟩:=m
   have q:=Cp o.Ac;rw[Ad0]at q;have p:¬f<((B9 a.l b f).1.Ac.l:K):=by have:=(Vz u x f).2.A7;omega
   refine⟨d,.i ⟨t,?_⟩,m,v⟩;show jj W9 54 3 _ _=_;rw[K6.2.2.2.2.1];simp only[QY,o.M,q,p])
  (b:=()) (a:=j) ⟨B,J,P⟩
 exact U
def gB{a:CI}(k:BD a.l){j:D}(n:j=400):∀{o:D}{f:G}{e:Ai}{g:T->Prop}{d:Ai×K},DC a f e g->CF a.l e->IF a.l j o e=A d->∃h,((d.2=0/\jj W9 54 2 [.b L,.p a.x 0] f=jj W9 54 1 [.p a.x 0] h)\/(d.2≠0/\jj W9 54 2 [.b L,.p a.x 0] f=A (.n d.2,h)))/\DC a h d.1 g/\Bo g f h
 |0,_,_,_,_,_,_,b=>by cases b
 |o+1,f,e,g,d,p,m,b=>by
  unfold IF at b;let⟨r,c,l,q⟩:=u_ k n p m
  rw[K6.2.2.1];simp only[↓Q,K6.2.2.2.1];rcases c with⟨s,c⟩|⟨s,c⟩
  .rw[Ad (by grind)]at b
   cases i:(B9 a.l e j).2.1 with
   |true=>
    rw[i,Af B]at b;rw[i]at c;let⟨v,w,t,u⟩:=gB k n l (Vz k m j).2 b
    grind
   |false=>
    rw[i,Ad (by grind)]at b;cases b
    rw[i]at c;refine⟨r,.i ⟨B,?_⟩,l,q⟩;rw[c,K6.2.2.1];simp only[↓Q]
  grind
def ak{b:CI}(h:BD b.l){k p:D}(u:k=400){i:G}{e:Ai}{g:T->Prop}{l:Ai×K}(q:DC b i e g)(n:CF b.l e)(a:Ib b.l k p e=A l):∃j,W9 (pos 54) [.p b.x 0] i=A (.n l.2,j)/\DC b j l.1 g/\Bo g i j:=by
 unfold Ib at a
 cases f:IF _ k p e with
 |none=>rw[f]at a;grind
 |some x=>
  rw[f]at a;simp only[AfG]at a;let⟨s,c,d,r⟩:=gB h u q n f
  rcases c with⟨o,c⟩|⟨o,c⟩
  .rw[Ad (by grind)]at a;subst a;let⟨t,_,m⟩:=o5 h d (ar h n f).2
   refine⟨t,AZ B B ?_,d.ext m,λw v=>(m.M (d.C4 v)).t P⟩;rw[K6.1,c,K6.2.1];grind
  .rw[Af o]at a;subst a;refine⟨s,AZ B B ?_,d,r⟩;rw[K6.1,c]
structure P5(b:CI)(m:D)(c:Ai->Prop):Prop where
 PQ:∀a,c a->CF b.l a
 Av:∀a,c a->∀e∈a.Ac,P2 b.l e
 round:∀a,c a->0<=a.round/\a.round<=6000
 Su:∀a,c a->∀(d:D) h,(Br b.l a)[d]? =A h->(C3 b.l (Br b.l a) (a.round+1) ⟨a.Ac,a.Am,a.round+1,a.AA⟩ d).2=0->
  (C3 b.l (Br b.l a) (a.round+1) ⟨a.Ac,a.Am,a.round+1,a.AA⟩ d).1.round=a.round+1/\∃j l e i f k,RV b (C3 b.l (Br b.l a) (a.round+1) ⟨a.Ac,a.Am,a.round+1,a.AA⟩ d).1 h j l e i f k
 Th:∀a,c a->(C3 b.l (Br b.l a) (a.round+1) ⟨a.Ac,a.Am,a.round+1,a.AA⟩ (Br b.l a).l).2=0->CF b.l (C3 b.l (Br b.l a) (a.round+1) ⟨a.Ac,a.Am,a.round+1,a.AA⟩ (Br b.l a).l).1
 Dj:∀a f g,c a->(Br b.l a).l≠0->KH b.l m f a=A g->g.2=0->c g.1
def ZY{b:C _}{e:C _}{d:K}{a:D}{f:A5}(g:e[a]? =A f):C3 b e d c (a+1)=if(C3 b e d c a).2≠0 then C3 b e d c a else F6 b (C3 b e d c a).1 f d:=by show(if(C3 b _ _ c a).2≠0 then C3 b _ _ c a else match e[a]?with|some f=>F6 b _ f _|none=>C3 b _ d c a)=_;grind
def ZX{c:C _}{f:C A5}{e:K}{b:Ai}{d:D}(g:(C3 c f e b d).2≠0):∀a,d<=a->C3 c f e b a=C3 c f e b d
 |0,h=>by grind
 |a+1,h=>by
  by_cases i:d=a+1;.grind
  .have j:=ZX g a (by omega);show(if(C3 c _ _ b a).2≠0 then C3 c _ e b a else _)=_;grind
def oz{b:CI}(xd:Li b){xo:D}{U:Ai->Prop}(xe:P5 b xo U){o:G}{p:T->Prop}(xc:U a){q:F}(xb:DC b o ⟨a.Ac,a.Am,a.round+1,a.AA⟩ (λg=>p g\/¬As q g))(xp:Aw o q A5.c 2 (Br b.l a))(xw:(Br b.l a).l<1000000000)(t:F):
  ∃c,(((C3 b.l (Br b.l a) (a.round+1) ⟨a.Ac,a.Am,a.round+1,a.AA⟩ (Br b.l a).l).2=0/\jj W9 68 5 [.n (Br b.l a).l,q,.n 0,t,.p b.x 0] o=jj W9 68 4 [t,.p b.x 0] c)\/
   ((C3 b.l (Br b.l a) (a.round+1) ⟨a.Ac,a.Am,a.round+1,a.AA⟩ (Br b.l a).l).2≠0/\jj W9 68 5 [.n (Br b.l a).l,q,.n 0,t,.p b.x 0] o=A (.n (C3 b.l (Br b.l a) (a.round+1) ⟨a.Ac,a.Am,a.round+1,a.AA⟩ (Br b.l a).l).2,c)))/\
   DC b c (C3 b.l (Br b.l a) (a.round+1) ⟨a.Ac,a.Am,a.round+1,a.AA⟩ (Br b.l a).l).1 p/\Bo p o c:=by
 have xj:=xe.Su a xc
 generalize Br b.l a=d at*
 generalize(⟨a.Ac,a.Am,a.round+1,a.AA⟩:Ai)=m at*
 have xC:=MU (f:=d.l) (d:=λj _ c=>jj W9 68 5 [.n d.l,q,.n (j:K),t,.p b.x 0] c)
  (e:=λj _ c=>(C3 b.l d (a.round+1) m j).2=0/\DC b c (C3 b.l d (a.round+1) m j).1 (λg=>p g\/¬As q g)/\Bo (λg=>p g\/¬As q g) o c)
  (g:=λZ=>∃c,(((C3 b.l d (a.round+1) m d.l).2=0/\Z=jj W9 68 4 [t,.p b.x 0] c)\/((C3 b.l d (a.round+1) m d.l).2≠0/\Z=A (.n (C3 b.l d (a.round+1) m d.l).2,c)))/\DC b c (C3 b.l d (a.round+1) m d.l).1 p/\Bo p o c)
  (λj _ c W E=>by
   let⟨J,r,xh⟩:=E
   let⟨z,y⟩:=Bb W
   have xu:=Cm W;let⟨xx,xy,xA,xt,xr,X,xz,xa⟩:=xj j z y J
   let⟨xs,M⟩:=CD (f:=A5.c) (w:=2) (λ_=>B) (xp.Ar λg x X=>⟨P,r.C4 (.j X)⟩) y
   have xJ:=M.AL (f:=A5.c) (λ_=>B) y;let⟨xG,xl,xn,xm,R,xk,xD,xE⟩:=box c (.I 2 (A5.c z))
   let⟨xN,xK⟩:=EL c (b:=2) [(.n 0),(.n 0)] (c:=A5.c z) xn xm B B
   have xI:=BB xk;have u:=r.ext R;let⟨xF,u⟩:=u
   let⟨xH,xL,xi,x,xv⟩:=u
   have xM:xl.Ap b.x 4=A (.n (a.round+1)):=by rw[Ay xi.M];grind
   let⟨v,Y,xB,S,xg,_⟩:=gd u xd xa (a.round+1)
   have xf:Bo (λg=>p g\/¬As q g) o v:=λg x=>(xg g x).t ((R.M (r.C4 x)).t P);have N:=ZY (b:=b.l) (d:=a.round+1) (c:=m) y;rw[Ad (by grind)]at N;by_cases V:(F6 b.l (C3 b.l d (a.round+1) m j).1 z (a.round+1)).2=0
   .left;refine⟨(),v,?_,?_⟩;.show jj W9 68 5 _ _=jj W9 68 5 _ _;rw[K7.2.2.2.2.2.2.1];simp only[QY,K7.2.2.2.2.2.2.2.1,H M.ia,K7.2.2.2.2.2.2.2.2,H (Bh (a:=j) (by omega)), *]
    .show(C3 _ _ _ _ (j+1)).2=0/\DC b v (C3 _ _ _ _ (j+1)).1 _/\_;rw[N];exact⟨V,⟨Y,S⟩,xf⟩
   .right;have xq:=ZX (c:=b.l) (f:=d) (e:=a.round+1) (b:=m) (d:=j+1) (by grind) d.l (by omega);rw[xq,N];refine⟨v,.j ⟨V,?_⟩,⟨Y,S.sub P⟩,P⟩;show jj W9 68 5 _ _=_;rw[K7.2.2.2.2.2.2.1];simp only[QY,K7.2.2.2.2.2.2.2.1,H M.ia, *])
  (λ_ c E=>by
   let⟨J,r,xh⟩:=E
   refine⟨c,.i ⟨J,?_⟩,r.sub P,P⟩;show jj W9 68 5 _ _=_;rw[K7.2.2.2.2.2.2.1];simp only[↓Q,↓QT,AdM,(CA d.l)])
  (b:=()) (a:=o) ⟨B,xb,P⟩
 grind
def ca{c:CI}{i:G}{g:T->Prop}(h:DC c i f g)(n:CF c.l f)(r:∀p∈f.Ac,P2 c.l p):∃e d,W9 (pos 52) [.p c.x 0] i=A (e,d)/\Aw d e A5.c 2 (Br c.l f)/\DC c d f (λa=>g a\/¬As e a)/\Bo g i d/\∀a,g a->As e a:=by
 have m:=h
 let⟨t,_,u,o,_,_⟩:=m
 let⟨e,d,q,l,j,k⟩:=qM o r n.A7
 refine⟨e,d,q,l,(h.V j).sub ?_,λa b=>j.M (h.C4 b),λa b=>k a (h.C4 b)⟩
 rintro a (b|b)
 .grind
 .exact .j ⟨λs=>b (k a s),l.Cz b⟩
def cc{b:CI}(c:CF b.l a)(e:∀d∈a.Ac,P2 b.l d):(Br b.l a).l<1000000000:=by have:=cb e 1000000 (CK _) a.Ac.l;have:=c.A7;unfold Br;omega
def jy{d:CI}(J:BD d.l)(I:Li d){p:D}(S:p=400){H:Ai->Prop}(f:P5 d p H){l:D}:∀{U:D}{h:G}{c:Ai}{j:T->Prop}{i:F}{q:Ai×K},H c->DC d h c (λg=>j g\/¬As i g)->Aw h i A5.c 2 (Br d.l c)->HW d.l p l U c=A q->∃x,jj W9 68 2 [.n 6001,i,.p d.x 0] h=A (.n q.2,x)/\DC d x q.1 j/\Bo j h x
 |0,_,_,_,_,_,_,_,_,e=>by cases e
 |U+1,h,c,j,i,q,k,z,Y,e=>by
  have xi:=f.PQ c k;have xx:=f.Av c k;have xt:=cc xi xx;have X:=Cp Y;let⟨xG,xH⟩:=f.round c k
  have xc:=z;let⟨xy,xz,xB,P,n,xs⟩:=xc
  have xC:=P.M;unfold HW at e;by_cases u:(Br d.l c).l=0
  .rw[Af u]at e;cases e
   have v:¬0<((Br d.l c).l:K):=by omega
   refine⟨h,?_,z.sub λg n=>.i n,Bo.refl _ _⟩;rw[K7.2.2.1];simp only[QY,X,v,K7.2.1]
  .rw[Ad u]at e
   have v:(0:K)<((Br d.l c).l:K):=by omega
   have xn:c.round<6001:=by omega
   have xo:=F2 (a:=c.round) (b:=1) (by omega) (by omega)
   let⟨Q,xA,xm,xh⟩:=P.Yj (c.round+1)
   have t:=xh.Fp (by grind) xs
   have xd:DC d Q ⟨c.Ac,c.Am,c.round+1,c.AA⟩ (λg=>j g\/¬As i g):=⟨xy,xz,xB,xm,n,t.1⟩
   have Z:=Y.Ar λg n l=>⟨t.2 g (.j l),(t.1 g (.j l)).1⟩
   have xv:=Cp Z
   let⟨xp,m,xe,xD⟩:=oz I f k xd Z xt (.n 6001)
   have xa:∀{s:R},jj W9 68 5 [.n ((Br d.l c).l:K),i,.n 0,.n 6001,.p d.x 0] Q=s->jj W9 68 2 [.n 6001,i,.p d.x 0] h=s:=λ{s} xF=>by rw[K7.2.2.1];simp only[QY,X,v,xC,xn,K7.2.2.2.1,xo,xA,xv];grind
   have M:Bo j h xp:=by grind
   cases o:KH d.l p l c with
   |none=>rw[o]at e;cases e
   |some xb=>
    rw[o]at e;simp only[]at e;have y:=o;unfold KH at y;rcases m with⟨V,m⟩|⟨V,m⟩
    .rw[Ad (by grind)]at y;have xj:=f.Th c k V;let⟨xq,W,E,N⟩:=ak J S xe xj y
     by_cases w:xb.2=0
     .rw[Ad (by grind)]at e;have r:=f.Dj c l xb k u o w;let⟨xJ,xE,xu,xw,xf,xk,_⟩:=ca E (f.PQ _ r) (f.Av _ r)
      let⟨xr,xI,xg,xl⟩:=jy J I S f r xf xw e
      refine⟨xr,xa ?_,xg,M.AI (N.AI (xk.AI xl))⟩;rw[m,K7.2.2.2.2.2.1];rw[w]at W;simp only[QY,W,K7.2.2.2.2.1,xu];grind
     .rw[Af w]at e;cases e
      refine⟨xq,xa ?_,E,M.AI N⟩;rw[m,K7.2.2.2.2.2.1];simp only[QY, *]
    .grind
def qQ{a:CI}(o:BD a.l)(n:Li a)(s:h=400){j:Ai->Prop}(d:P5 a h j){v u:D}{f:G}{e:Ai}{b:T->Prop}{i:Ai×K}(c:j e)(k:DC a f e b)(t:HW a.l h v u e=A i):∃g,W9 (pos 68) [.p a.x 0,.n 6001] f=A (.n i.2,g)/\DC a g i.1 b/\Bo b f g:=by
 let⟨E,x,y,w,l,p,_⟩:=ca k (d.PQ _ c) (d.Av _ c)
 let⟨r,z,m,q⟩:=jy o n s d c l w t
 refine⟨r,AZ B B ?_,m,p.AI q⟩;rw[K7.1];grind
def La(b:C Ab):D->C (BN×F)
 |0=>[]
 |a+1=>match b[a]?with
  |some c=>La b a++[(c.A8,.n (a:K))]
  |none=>La b a
def a_{e:C Ab}{f:BN}:∀{b:D},(∀(c:D) a,c<b->e[c]? =A a->a.A8≠f)->DV (La e b) f=O
 |0,_=>rfl
 |b+1,g=>by
  have h:=a_ (b:=b) λc a j d=>g c a (by omega) d;unfold La;split;.rename_i a d;rw[R5,h];grind
  .grind
def h0{g:C Ab}(c:BD g){a:D}{d:Ab}(f:g[a]? =A d):∀{b:D},a<b->DV (La g b) d.A8=A (.n a)
 |0,j=>by omega
 |b+1,j=>by
  unfold La;by_cases e:a=b
  .subst e;rw[f];simp only[];rw[R5,a_ λn h p l e=>by have k:=c.XL n h l;have o:=c.XL a d f;rw[e]at k;omega]
   grind
  .have m:=h0 c f (b:=b) (by omega);split;.rw[R5,m]
   .grind
def hZ{a:C _}(e:BD a){c:BN}{b:D}(i:CH a c=b):DV (La a a.l) c=A (.n b):=by
 rcases Qp a c with k|⟨g,h,j,d,f⟩;.omega
 .have:g=b:=by omega
  subst this;rw[<-f];exact h0 e d (AdN.1 d).1
def t6{a:C Ab}(r:BD a){e:G}{j g:T}{xf:C F}(X:e.M j=A (.I 6 (Z Ab.c a::.m g::xf)))(J:Lv e j)(xe:Lv e g)(W:e.M g=A (.Bn [] 0))(xc:j≠g)(o:F):∃b l f,jj W9 51 2 [.n a.l,Z Ab.c a,.n 0,o,.p j 0] e=jj W9 51 1 [o,.p j 0] b/\b.M g=A (.Bn l f)/\GU l (La a a.l)/\∀c,Lv e c->c≠g->b.M c=e.M c/\Lv b c:=by
 have xl:=r.A7;let⟨_,b,t,l,f,u,p,q⟩:=Dh (h:=a.l) (f:=λd _ b=>jj W9 51 2 [.n a.l,Z Ab.c a,.n d,o,.p j 0] b)
  (g:=λd _ b=>∃l f,b.M g=A (.Bn l f)/\GU l (La a d)/\(∀c,Lv e c->c≠g->b.M c=e.M c)/\∀c,Lv e c->Lv b c)
  (λd _ b E M=>by
   let⟨l,f,u,p,q,z⟩:=M
   let⟨k,w⟩:=Bb E
   have xh:=Cm E;let⟨c,v,m,xa,y,V,xm,xo⟩:=box b (.I 5 (Ab.c k))
   let⟨xr,xp⟩:=EL b (b:=5) [(.s []),(.n 0),.sn,.sn,.sn] (c:=Ab.c k) m xa B B
   have xn:A9 5 b [.pi (Ab.c k)]=A (.S (Ab.c k)):=B;have xq:=(y.M (z j J)).t ((q j J xc).t X);have xg:=V;have U:=(y.M (z g xe)).t u;have xb:DV (La a d) k.A8=O:=a_ λxd N xk Y R=>by have v:=r.XL xd N Y;have xj:=r.XL d k w;rw[R]at v;omega
   have xi:=eD U p xb (.n d);have S:La a (d+1)=La a d++[(k.A8,.n d)]:=by show(match a[d]?with|some k=>_|none=>_)=_;rw[w]
   refine⟨(),v.set g (.Bn (l++[⟨.s k.A8,.n d,f⟩]) (f+1)),?_,_,f+1,by rw[AN,Af B],by rw[S];exact p.VS _ _ f,λc m x=>by rw[AN,Ad x];grind,λc m=>by grind⟩;show jj W9 51 2 _ _=jj W9 51 2 _ _;rw[J3.2.2.2.2.2.1];simp only[QY,J3.2.2.2.2.2.2.1,H (CB w),J3.2.2.2.2.2.2.2,H (Bh (a:=d) (by omega)), *])
  (b:=()) (a:=e) ⟨[],0,W,B,λ_ _ _=>B,λ_ b=>b⟩
 have t:jj W9 51 2 [.n a.l,Z Ab.c a,.n 0,o,.p j 0] e=jj W9 51 2 [.n a.l,Z Ab.c a,.n a.l,o,.p j 0] b:=t;have P:=CA a.l;refine⟨b,l,f,?_,u,p,λc m x=>⟨q.1 c m x,q.2 c m⟩⟩;rw[t,J3.2.2.2.2.2.1];simp only[↓Q,↓QT,AdM,P]
def nh{b:G}{h f:F}{a c:C N}(w:Aw b h N.c 2 a)(j:Aw b f N.c 2 c)(i:c.l=a.l)(y:0<a.l):∃e g,GD 2 b [h,f]=A (.n a.l,g)/\¬As h e/\Aw g h N.c 2 c/\(∀d,d≠e->g.M d=b.M d)/\∀d,Lv g d=Lv b d:=by
 rcases w with⟨_,rfl⟩|⟨e,k,rfl,z,s,E⟩;.grind
 .refine⟨e,b.set e (.I (a.l*2) (c.f N.c)),?_,λu=>u 0 a.l k 2 B,.j ⟨e,k,by grind,by grind,by rw[AN,Af B,i],by grind⟩,λd t=>by rw[AN,Ad t],λd=>by grind⟩;have l:Ii f=A a.l:=by rcases j with⟨rfl,rfl⟩|⟨_,_,rfl,_⟩<;>rw[<-i]<;>rfl
  have n:¬a.l=0:=by omega
  have m:F7 b 2 a.l f=A (c.f N.c):=by
   rcases j with⟨rfl,rfl⟩|⟨q,x,rfl,_,v,_⟩;.grind
   .show Aj _ _ _=_;rw[AdX (by omega),Gm n];show b.AL q 0 (a.l*2)=_;rw[D1 v,Af (by omega),Af (by grind)]
  have p:BU (c.f N.c)=L:=by
   clear m j l i
   induction c with
   |nil=>rfl
   |cons M J o=>rw[DJ]at o⊢;rw[Aeh,AeG,o];rfl
  show(match Ii _,Ii f with|some H,A I=>(match F7 b 2 _ f with|some _=>Aj _ _ _|none=>O)|_,_=>O)=_;rw[l];show(match F7 b 2 _ f with|some _=>Aj _ _ _|none=>O)=_;rw[Nat.min_self,m];show Aj _ _ _=_;rw[p];show Aj _ (Aj (AW a.l 0) (A (F.n 0,b)) (match b.Ep e 0 (a.l*2) (c.f N.c)with|some r=>A (F.n (Int.ofNat a.l),r)|none=>O)) O=_;rw[Gm n,Ki (by rw[s];rfl),Af (by omega),Af B];rfl
def C6.w_{q:T->Bm}{l:G}{n:D}{m:T}{j:AK}{p v r t:F}{u s:D->F}(a:C6 q l n m j p v r t u s){w:F}{o:C N}(Q:Aw l w N.c 2 o)(E:o.l=j.An.l)(z:0<j.An.l):∃k,GD 2 l [p,w]=A (.n j.An.l,k)/\C6 q k n m {j with An:=o} p v r t u s/\EM q l k (.An n):=by
 let⟨x,k,y,I,J,P,H⟩:=nh a.An Q E z
 have R:=a.Fr x I;have f:=Rr R P H;refine⟨k,y,?_,f⟩;exact{
  M:=(f m a.lv (by rw[a.B3];intro c;cases c)).1.t a.M
  lv:=(f m a.lv (by rw[a.B3];intro c;cases c)).2
  B3:=a.B3
  An:=J
  Fr:=a.Fr
  AG:=a.AG.Ar λb d e=>f b d (by rw[a.Jl b e];intro c;cases c)
  Jl:=a.Jl
  AD:=λh i g=>⟨(a.AD h i g).1.Ar λb d e=>f b d (by rw[(a.AD h i g).2 b e];intro c;cases c),(a.AD h i g).2⟩
  AS:=a.AS.Ar λb d e=>f b d (by rw[a.Fq b e];intro c;cases c)
  Fq:=a.Fq
  A4:=a.A4.Ar λb d e=>f b d (by rw[a.Jk b e];intro c;cases c)
  Jk:=a.Jk
  B1:=λh i g=>⟨(a.B1 h i g).1.Ar λb d e=>f b d (by rw[(a.B1 h i g).2 b e];intro c;cases c),(a.B1 h i g).2⟩}
def XG(a:C Ab):Ab:=(a[(CH a GN).n]?).g dP
def Ip(b:C Ab)(a:AQ):Ai:=⟨[{Dl b (XG b) (CH b GN) (-1) (-1) 0 with An:=D4::(Co a.l a.BT).2.1}],(Co a.l a.BT).1,0,0⟩
def ZO:Ai:=⟨[],[],0,0⟩
def JA(b:C Ab)(c d:D)(a:AQ):Ae (Ai×K):=
 if D5 b≠0 then A (ZO,D5 b)
 else if JS (I8 b) a≠0 then A (ZO,JS (I8 b) a)
 else if(Co a.l a.BT).2.2≠0 then A (ZO,(Co a.l a.BT).2.2)
 else Ib b c d (Ip b a)
def Um{a:K}{b:AQ}(c:JS a b=0):b.l.l=a/\b.BT.l=a/\a<=3/\∀d∈b.l,d.l<=40:=by unfold JS at c;grind
def Y5{a:AQ}(e:a.l.l=a.BT.l)(b:(Co a.l a.BT).2.2=0):(Co a.l a.BT).2.1.l=a.l.l:=by
 unfold Co at b⊢;rw[Ad (by omega)]at b⊢;split at b;.grind
 .rename_i c;rw[Ad c];split at b;.grind
  .rename_i d;rw[Ad d];have:=(Uj (b:=a.l) (c:=a.BT) (a:=a.l.l) Om e).2;rw[Aeq (by grind)]at this;grind
def cx{a:C Ab}(i:BD a){c:AQ}(n:JS (I8 a) c=0)(o:(Co c.l c.BT).2.2=0):∃(g:D)(d:Ab),CH a GN=g/\a[g]? =A d/\XG a=d/\I8 a=d.An-1/\CF a (Ip a c)/\Dw a g d {Dl a d g (-1) (-1) 0 with An:=D4::(Co c.l c.BT).2.1}:=by
 let⟨g,d,j,k,v⟩:=i.K_
 have l:XG a=d:=by unfold XG;grind
 have p:I8 a=d.An-1:=by unfold I8;grind
 let⟨r,s,t,u⟩:=Um n
 have q:=Y5 (a:=c) (by omega) o;have m:=Vi i k (-1) (-1) 0 (D4::(Co c.l c.BT).2.1) (by grind);refine⟨g,d,j,k,l,p,?_,m⟩;have h:∀{e:D}{f:AK},(Ip a c).Ac[e]? =A f->e=0/\f={Dl a d g (-1) (-1) 0 with An:=D4::(Co c.l c.BT).2.1}:=λ{e}{f} b=>by
  unfold Ip at b
  rw[l,j]at b
  cases e with
  |zero=>grind
  |succ e=>cases b
 exact{
  A7:=by show 1<=400;omega
  BC:=λe f b=>by grind
  up:=λe f b=>by obtain⟨_,rfl⟩:=h b;exact .i B
  next:=λe f b=>by obtain⟨_,rfl⟩:=h b;exact .i B
  Az:=λe f b=>by obtain⟨rfl,rfl⟩:=h b;exact⟨Afd 0,Afd 0⟩
  K_:=λe f b _=>(h b).1}
open Classical in
def nF{g:C Ab}(Y:BD g){xG xH:D}(x4:xG=400){b:AQ}(xn:JS (I8 g) b=0)(xD:(Co b.l b.BT).2.2=0){xc:Ai×K}(x8:Ib g xG xH (Ip g b)=A xc){k:G}{d j:T}{l xa:F}{I U:D->F}{r:C Bx}{R:D}(xj:k.M d=A (.I 6 [Z Ab.c g,.m j,.sn,l,.n 0,.n 0]))(xo:Lv k d)(xy:k.M j=A (.Bn r R))(xF:Lv k j)(xR:GU r (La g g.l))(xO:CY k l I U (Co b.l b.BT).1)(yj:Aw k xa N.c 2 (Co b.l b.BT).2.1)(yK:d≠j)(yg:∀a,B8 l I U (Co b.l b.BT).1.l a->a≠d/\a≠j/\As xa a)(yO:∀a,¬As xa a->a≠d/\a≠j){X:T->Prop}(yF:∀a,X a->Lv k a/\a≠d/\a≠j/\¬B8 l I U (Co b.l b.BT).1.l a):∃xl,jj W9 51 1 [xa,.p d 0] k=A (.AB [.p d 0,.n xc.2],xl)/\Bo X k xl/\DC ⟨g,r,R,d⟩ xl xc.1 X:=by
 let⟨y,E,xz,xm,x5,yI,xQ,yq⟩:=cx Y xn xD
 let⟨yx,yy,yz,yA⟩:=Um xn
 have yu:=Y5 (a:=b) (by omega) xD;have yv:=(Y.Bc y E xm).An;have xX:O_ k (.m j)=A r:=by show(match HQ (k.M j)with|some (r,_)=>A r|none=>O)=_;rw[xy];rfl
 have yc:EP Aa [2] (.n 0) Aa k [.m j,.s [109,97,105,110]]=A (.n y):=by have:=WN (d:=Aa) (e:=.n 0) xX xR GN;rw[hZ Y xz]at this;exact this
 let⟨s,J,xd,xp,yk,xY,x1,yi,x0,x9,xI,xP,xt⟩:=go xm (YU Y xm) (-1) (-1) 0 xj xo 0
 have xw:Dq 1 1 J.next [.p s 0]=A (.I 1 [.p s 0],.Z J.next 0 1 2 1):=VK J.next B;let⟨e,V,x2,yG,xK,xi,yM,yN⟩:=box J (.I 1 [.p s 0])
 rw[x2]at xw;have xh:=Gx (d:=2) (a:=.Z e 0 1 2 1) ((xK.M (xt.lv xo)).t ((xt.M xo).t xj)) (by omega) (by omega) B B;have xW:Dg 2 [.Z e 0 1 2 1] [Z Ab.c g,.m j,.sn,l,.n 0,.n 0]=[Z Ab.c g,.m j,.Z e 0 1 2 1,l,.n 0,.n 0]:=B;rw[xW]at xh;have xb:∀a,a≠d->(V.set d (.I 6 [Z Ab.c g,.m j,.Z e 0 1 2 1,l,.n 0,.n 0])).M a=V.M a:=λa n=>by rw[AN,Ad n]
 have xk:(V.set d (.I 6 [Z Ab.c g,.m j,.Z e 0 1 2 1,l,.n 0,.n 0])).M d=A (.I 6 [Z Ab.c g,.m j,.Z e 0 1 2 1,l,.n 0,.n 0]):=by rw[AN,Af B]
 have ye:∀a,Lv (V.set d (.I 6 [Z Ab.c g,.m j,.Z e 0 1 2 1,l,.n 0,.n 0])) a=Lv V a:=by grind
 generalize V.set d (.I 6 [Z Ab.c g,.m j,.Z e 0 1 2 1,l,.n 0,.n 0])=m at xh xb xk ye;have xf:∀a,Lv k a->a≠d->m.M a=k.M a/\Lv m a:=by grind
 have yB:¬Lv k e:=by grind
 have xg:e≠d:=by grind
 obtain⟨q,yn,ym,yQ,yl,yR,yP⟩:∃q:T->Bm,q d=.Ex/\q j=.Bn/\q e=.Ac/\(∀a,B8 l I U (Co b.l b.BT).1.l a->q a=.Am)/\(∀a,Lv J a->¬Lv k a->q a=xd a)/\∀a,Lv k a->a≠d->a≠j->¬B8 l I U (Co b.l b.BT).1.l a->q a=.C5:=by
  refine⟨λa=>if a=d then .Ex else if a=j then .Bn else if a=e then .Ac else if B8 l I U (Co b.l b.BT).1.l a then .Am else xd a,P,P,P,λa n=> ?_,λa n x6=> ?_,λa n yC yD yE=> ?_⟩;.grind
  .grind
  .grind
 have xr:=xI.Ar (u:=q) (k:=m) (λa n xE=>by
  have x6:¬Lv k a:=λR=>by rw[xP a R]at xE;exact xE
  grind:∀a,Lv J a->(xd a).of 0->m.M a=J.M a/\Lv m a/\q a=xd a)
 have xV:Cb [(.i .u8 0),(.n 0)] [(0,1)] [(.i .u8 3)]=A (.S (N.c D4)):=B;have xx:Dq 1 2 m.next [.S (N.c D4)]=A (.I 2 (N.c D4),.Z m.next 0 1 2 2):=VK (w:=2) m.next B;let⟨xq,xA,x7,yH,xL,xZ,yb,yf⟩:=box m (.I 2 (N.c D4))
 rw[x7]at xx;let⟨yo,W,xT,yh,yp,yt⟩:=iJ (d:=N.c) (b:=2) (l:=16) (λ_=>B) (λ_=>B) (.j ⟨xq,2,B,.j B,xZ,yb⟩:Aw xA (.Z xq 0 1 2 2) N.c 2 [D4]) (yj.Ar λa n xH=>by grind:Aw xA xa N.c 2 (Co b.l b.BT).2.1) (DG (by grind))
 have xe:AH m W:=λa n=>by have:=yp a (xL.lv n) (EN λxS=>yf (by grind):As (.Z xq 0 1 2 2) a);grind
 have xs:=xr.ext xe;have xv:=({
  M:=xk
  lv:=by grind
  B3:=yn
  Bn:=(xf j xF P).1.t xy
  GM:=(xf j xF P).2
  F0:=ym
  Ac:=.j ⟨e,2,B,P,(xb e xg).t xi,by grind⟩
  Ir:=λa n=>by have:a=e:=AdS λxS=>n (EN P);grind
  Am:=xO.Ar λa n x3=>xf a n (yg a x3).1
  Is:=yl
  BC:=λyL yw xn=>by grind}:EB q m g r R d ⟨[Dl g E y (-1) (-1) 0],(Co b.l b.BT).1,0,0⟩ ⟨j,.Z e 0 1 2 1,l,I,U,λ_=>s,λ_=>xp,λ_=>yk,λ_=>xY,λ_=>x1,λ_=>yi,λ_=>x0⟩).ext xe
 have yd:Aj (Bv .Cq [.p s 4] W xp) (Aj (Bv .Cq [.p e 0] W (.p s 0)) (Aj (Bv .Cq [.p d 2] W (.Z e 0 1 2 1)) L Aa) Aa) Aa=L:=by rw[GL (Ay xs.M 4),GL (a:=W) (c:=e) (b:=0) (Ay ((xe.M (by grind)).t ((xb e xg).t xi)) 0),GL (Ay xv.M 2)];rfl
 have yJ:(Dl g E y (-1) (-1) 0).An.l=E.An.n:=by show(BG _ _).l=_;grind
 let⟨xB,xU,xJ,xu⟩:=xs.w_ (w:=yo) (o:=[D4]++(Co b.l b.BT).2.1) yh (by grind) (by grind)
 have xM:∀a,X a->Lv W a/\q a=.C5:=by grind
 have yr:=xu.Fp (by grind) xM;let⟨xC,ya,xN,ys⟩:=ak (b:=⟨g,r,R,d⟩) Y x4 (⟨_,q,_,by
  have:Ip g b=Ai.AJ ⟨[Dl g E y (-1) (-1) 0],(Co b.l b.BT).1,0,0⟩ 0 {Dl g E y (-1) (-1) 0 with An:=[D4]++(Co b.l b.BT).2.1}:=by unfold Ip;rw[x5,xz];rfl
  rw[this];exact(xv.NI (i:=0) (c:=Dl g E y (-1) (-1) 0) B (t:=.An 0) B xu xJ),B,P⟩:DC ⟨g,r,R,d⟩ xB (Ip g b) X) xQ x8
 refine⟨xC,?_,P,xN⟩;rw[J3.2.2.2.2.1];simp only[↓Q,↓H (Ay xj 1:k.Ap d 1=A (.m j)),↓H yc,↓H x9,↓H xw,↓H xh,↓H (Ay xk 2:m.Ap d 2=A (.Z e 0 1 2 1)),↓H (B:AR 1 [.Z e 0 1 2 1,.n 0]=A (.p e 0)),↓H (Ay ((xb e xg).t xi) 0:m.Ap e 0=A (.p s 0)),↓H (Ay xr.M 4:m.Ap s 4=A xp),↓H xV,↓H xx,↓H xT,↓Gn yd,↓H xU,↓H (ya:W9 (pos 54) [.p d 0] xB=A (.n xc.2,xC)), *]
def c8(e:C Ab)(f:F)(d:G)(c:Ai)(b:T->Prop):Prop:=∃a:CI,a.l=e/\f=.p a.x 0/\Li a/\DC a d c b
def gc{a:C Ab}(xE:Cl a){xk xS:D}(xF:xk=400)(c:AQ)(xw:c.l.l<=2000000)(xx:D3 c.l<=100000000){z:Ai×K}(i:JA a xk xS c=A z)(k:G){n:T->Prop}(ye:∀h,n h->Lv k h):∃e u,W9 (pos 51) [Z Ab.c a,.S (AQ.c c)] k=A (.AB [e,.n z.2],u)/\Bo n k u/\(∀h,n h->Lv u h)/\(z.2=0->c8 a e u z.1 n):=by
 let⟨y,l,xI,xB,x4,N,yg,yh⟩:=box k (.I 2 (AQ.c c))
 have x1:∀(f:F->G->R),bl (.p k.next 0) (k.V (.I (Bq (F.I (.S (AQ.c c)))) (F.I (.S (AQ.c c))))) f=f (.p y 0) l:=Dy k (.I 2 (AQ.c c)) xI xB;have xV:l.AL y 0 2=A (AQ.c c):=BB N;have xq:l.Ap y 0=A (Z Cv c.l):=Ay N 0;have xr:l.Ap y 1=A (Z CN c.BT):=Ay N 1;have o:=q9 a xE;unfold JA at i;by_cases q:D5 a=0
 .rw[Ad (by grind)]at i;rw[Af q,q]at o;have t:=q_ (I8 a) c (by omega);by_cases M:JS (I8 a) c=0
  .rw[Ad (by grind)]at i;rw[M]at t;let⟨xK,xL⟩:=ra c.l c.BT xw xx l
   by_cases r:(Co c.l c.BT).2.2=0
   .rw[Ad (by grind)]at i;let⟨e,x0,x9,yo,b,xj,I,xT,xl,yb,yc⟩:=xL r
    have J:=HU q;let⟨x,xg,W,V,E,S,xO,Y⟩:=box b (.I 1 [.sn])
    have x2:∀(f:F->G->R),bl (.p b.next 0) (b.V (.I 1 [.sn])) f=f (.p x 0) xg:=Dy b (.I 1 [.sn]) W V;let⟨g,xY,xW,s⟩:=PR S (Cr I.o).2
    have xa:AH b g:=by rw[s];exact E.Gw Y _
    let⟨d,p,xG,xC,xb,yd,xP,yi⟩:=box g (.Bn [] 0)
    have yp:∀(f:F->G->R),bl (.m g.next) (g.V (.Bn [] 0)) f=f (.m d) p:=λf=>by rw[<-xG,<-xC];rfl
    have xQ:Lv g x:=by grind
    have ym:p.AL x 0 1=A [e]:=BB ((xb.M xQ).t (by rw[s,AN,Af B]));have ya:Cb [.sn,.mn,.sn,.sn,(.n 0),(.n 0)] [(0,1),(1,1),(3,1)] [Z Ab.c a,.m d,.S [e]]=A (.S [Z Ab.c a,.m d,.sn,e,.n 0,.n 0]):=by rcases I.o with⟨rfl,_⟩|⟨_,_,rfl,_⟩<;>rfl
    let⟨j,U,xH,xD,xm,xf,X,yj⟩:=box p (.I 6 [Z Ab.c a,.m d,.sn,e,.n 0,.n 0])
    have yq:∀(f:F->G->R),bl (.p p.next 0) (p.V (.I (Bq (F.I (.S [Z Ab.c a,.m d,.sn,e,.n 0,.n 0]))) (F.I (.S [Z Ab.c a,.m d,.sn,e,.n 0,.n 0])))) f=f (.p j 0) U:=Dy p (.I 6 [Z Ab.c a,.m d,.sn,e,.n 0,.n 0]) xH xD;have w:j≠d:=by grind
    let⟨m,xt,xJ,xM,xu,xd,xe⟩:=t6 J xf X P P w x0
    have x5:AH b U:=xa.AI (xb.AI xm);have yk:¬Lv b d:=by grind
    have yl:¬Lv b j:=by grind
    have x6:∀h,Lv b h->m.M h=b.M h/\Lv m h:=by grind
    have xn:=I.Ar (j:=m) P;have xU:=xT.Ar (c:=m) P;have xv:=(xe j X w).1.t xf;have xR:Lv m d:=by
     by_cases xA:Lv m d;.grind
     .exfalso;have:m.next.num<=d.num:=Nat.le_of_not_lt xA;have xy:=(xe j X w).2;unfold Lv at xy;have yf:d.num<j.num:=by have:=xP;unfold Lv at this;grind
      omega
    let⟨xh,xN,x7,xc⟩:=nF J xF M r i xv P xu xR xd xn xU w
     P
     P (X:=n)
     (λh xi=>by grind)
    have xo:Li ⟨a,xt,xJ,j⟩:=⟨La a a.l,xd,λyn x8 xz=>hZ J xz⟩;have xp:Bo n k xh:=by grind
    refine⟨.p j 0,xh,AZ B B ?_,xp,λh xi=>xc.C4 xi,λ_=>⟨_,B,B,xo,xc⟩⟩;have xZ:AX 1 (b.V (.I 1 [.sn])) [.p b.next 0,.S [e]]=A (AC,g):=by grind
    have xX:(g.V (.Bn [] 0)).AL b.next 0 1=A [e]:=by grind
    have xs:Cb [.sn,.mn,.sn,.sn,(.n 0),(.n 0)] [(0,1),(1,1),(3,1)] [Z Ab.c a,.m g.next,.S [e]]=A (.S [Z Ab.c a,.m d,.sn,e,.n 0,.n 0]):=by grind
    have x3:∀(f:F->G->R),bl (.p (g.V (.Bn [] 0)).next 0) ((g.V (.Bn [] 0)).V (.I (Bq (F.I (.S [Z Ab.c a,.m d,.sn,e,.n 0,.n 0]))) (F.I (.S [Z Ab.c a,.m d,.sn,e,.n 0,.n 0])))) f=f (.p j 0) U:=by grind
    rw[J3.1];simp only[↓x1,↓x3,↓Q,↓QT,↓o.H B,↓H xV,↓t.H B,J3.2.1,J3.2.2.1,↓H xq,↓H xr,↓H xj,↓H xZ,J3.2.2.2.1,↓H xX,↓H xs,xM,xN]
   .rw[Af r]at i;cases i
    let⟨b,xj,xl⟩:=xK r
    let⟨x,xg,W,V,E,S,xO,Y⟩:=box b (.I 1 [.sn])
    have x2:=Dy b (.I 1 [.sn]) W V;let⟨g,xY,xW,s⟩:=PR S (b:=.sn) B
    have xa:AH b g:=by rw[s];exact E.Gw Y _
    refine⟨.pn,g,AZ B B ?_,P,P,Om⟩;rw[J3.1];simp only[QY,o.H B,t.H B,J3.2.1,J3.2.2.1, *]
  .rw[Af M]at i;cases i
   refine⟨.pn,l,AZ B B ?_,P,P,Om⟩;rw[J3.1];simp only[QY,o.H B,t.H B,J3.2.1, *]
 .rw[Af q]at i;cases i
  rw[Ad q]at o;refine⟨.pn,l,AZ B B ?_,P,P,Om⟩;rw[J3.1];simp only[QY,o.H B,J3.2.1, *]
def Hr(b:C Ab)(c d e:D)(f:AQ):Ae (Ai×K):=match JA b c d f with
 |some a=>if a.2≠0 then A a else HW b c d e a.1
 |none=>O
def f9{f:C Ab}(N:Cl f){o R:D}(t:h=400)(d:AQ)(H:d.l.l<=2000000)(I:D3 d.l<=100000000){r:Ai->Prop}(x:∀b:CI,b.l=f->Li b->P5 b h r)(v:∀a,JA f h o d=A a->a.2=0->r a.1){a:Ai×K}(e:Hr f h o R d=A a)(j:G){g:T->Prop}(xc:∀c,g c->Lv j c):∃p k,W9 (pos 43) [Z Ab.c f,.S (AQ.c d)] j=A (.AB [p,.n a.2],k)/\Bo g j k/\(a.2≠0->∀c,g c->Lv k c)/\(a.2=0->c8 f p k a.1 g):=by
 let⟨xh,E,xe,xd,V,xb,xf,xg⟩:=box j (.I 2 (AQ.c d))
 unfold Hr at e
 cases l:JA f h o d with
 |none=>grind
 |some c=>
  rw[l]at e;simp only[]at e;let⟨p,J,S,X,W,w⟩:=gc N t d H I l E (n:=g) P
  by_cases i:c.2=0
  .rw[Ad (by grind)]at e;obtain⟨b,M,rfl,m,u⟩:=w i;subst M;have y:D5 b.l=0:=by
    unfold JA at l;by_cases xa:D5 b.l=0;.grind
    .grind
   let⟨s,U,q,Y⟩:=qQ (HU y) m t (x b B m) (v c l i) u e
   rw[i]at S;by_cases n:a.2=0;.rw[n]at U;refine⟨.p b.x 0,s,AZ B B ?_,P,λz=>BF n z,λ_=>⟨b,B,B,m,q⟩⟩;rw[Q6.1,n];simp only[QY,Q6.2.1,Q6.2.2, *]
   .refine⟨.pn,s,AZ B B ?_,P,λ_ c Q=>q.C4 Q,Om⟩;rw[Q6.1];simp only[QY,Q6.2.1, *]
  .rw[Af i]at e;cases e
   refine⟨.pn,J,AZ B B ?_,P,P,Om⟩;rw[Q6.1];simp only[QY,Q6.2.1, *]
end Go.Proofs.YtbmnfifnenajjaaGreat
namespace Go.Proofs.YtbmnfifnenajjaaGreat
open Go.Fg Go.Sort
def Ro{f:Type}(c:G)(d:F)(h:f->C F)(e:D)(a:C f):Prop:=(d=.sn/\a=[])\/∃b g,d=.Z b 0 a.l g e/\DR (c.M b)=A (a.l*e,a.f h)/\Lv c b
variable{d:F}
def Aw.ro{m:Type}{b:G}{a:m->C _}{e:D}{c:C _}(l:Aw b d a e c):Ro b d a e c:=by
 rcases l with k|⟨f,g,h,_,i,j⟩;.exact .i k
 .exact .j ⟨f,g,h,by rw[i];rfl,j⟩
variable{f:F}
def Ro.Ar{l:Type}{c d:G}{i:l->C F}{g:D}{e:C l}(q:Ro c f i g e)(p:∀b k a,Lv c b->¬As f b->DR (c.M b)=A (k,a)->DR (d.M b)=A (k,a)/\Lv d b):Ro d f i g e:=by
 rcases q with r|⟨h,a,j,n,o⟩;.exact .i r
 .have:=p h _ _ o (λm=>m 0 e.l a g j) n;exact .j ⟨h,a,j,P,P⟩
variable{e:G}
def Ro.fs{r:Type}{h:T->Prop}{a:r->C _}{g:D}{b:C _}(q:Ro e f a g b)(j:∀l,¬As f l->h l)(k:∀c,(a c).l=g)(s:∀c,(a c).all Im=L):Fs h 2 e f (YtbmnfifnenajjaaGreat.Z a b):=by
 rcases q with⟨rfl,rfl⟩|⟨m,n,rfl,i,_⟩;.exact(Fs.sn e).up (by omega)
 .refine Fs.M0 (k:=1) (j m (λp=>p 0 b.l n g B)) k k i ?_
  clear i j
  induction b with
  |nil=>exact .nil
  |cons c t o=>exact .cons (BS.Oh P) o
def Ro.dq{g:Type}{c:G}{a:F}{b:g->C _}{f:D}{d:C _}(e:Ro c a b f d):Fl a=L:=by rcases e with⟨rfl,_⟩|⟨h,i,rfl,_⟩<;>rfl
abbrev WE:=F×Bt
instance:Inhabited WE:=⟨(.sn,⟨[],0⟩)⟩
def CG(a:WE):C F:=[a.1,.n a.2.Ax]
def BL(a b:WE):Ah:=Ao (D6 a.2 b.2<0)
structure SI(c:C WE)(g:G)(e:F)(d:G)(f:Bg WE):Prop where
 Cs:Aw d e CG 2 f.l
 sub:∀a∈f.l,a∈c
 ro:∀a∈c,Ro d a.1 Bf.c 2 a.2.B4
 A7:∀a∈c,a.2.B4.l<1000000000
 HF:∀a∈c,∀b,¬As a.1 b->As e b
 fr:∀b,Lv g b->((As e b/\∀a∈c,As a.1 b)->d.M b=g.M b)/\Lv d b
variable{b:D}
def T8{a:Bg WE}(c:b<a.z):a.l[b]? =A a[b]! :=by grind
def Wl{a:Bg WE}(c:b<a.z):a[b]!∈a.l:=AdU (T8 c)
variable{c:D}
def j8{a:Bg WE}:(swp a b c).l=(a.l.set b a[c]!).set c a[b]! :=by unfold swp;grind
def ub:F->T
 | .Z a _ _ _ _=>a
 |_=>.h
def cP{c:F}{a:T}(e:¬As c a):ub c=a:=by refine AdS λb=>e ?_;intro h g f i d;rw[d]at b;exact b B
variable{a:D}{i:G}
def SI.rd{g:C _}{b:F}{d:Bg WE}(h:SI g i b e d)(j:a<d.z):AR 2 [b,.n a]=A (.p (ub b) (a*2))/\e.AL (ub b) (a*2) 2=A (CG d[a]!):=by
 let⟨k,c⟩:=CD (f:=CG) (w:=2) (λ_=>B) h.Cs (T8 j)
 rw[cP c.nb];exact⟨c.ia,c.AL (f:=CG) (λ_=>B) P⟩
def SI.dr{d:C _}{f:G}{h:F}{c:Bg _}(b:SI d f h e c){a:WE}(g:a∈c.l):BU (CG a)=L:=by unfold CG;rw[DJ];simp[(b.ro a (b.sub a g)).dq]
def SI.KM{n:C WE}{q:G}{e:F}{a:Bg WE}(b:SI n q e i a){d:D}(m:d<a.z)(t:c<a.z):
  ∃r s,AR 2 [e,.n d]=A (.p (ub e) (d*2))/\AR 2 [e,.n c]=A (.p (ub e) (c*2))/\i.AL (ub e) (d*2) 2=A (CG a[d]!)/\i.AL (ub e) (c*2) 2=A (CG a[c]!)/\
   AX 2 i [.p (ub e) (d*2),.S (CG a[c]!)]=A (AC,r)/\AX 2 r [.p (ub e) (c*2),.S (CG a[d]!)]=A (AC,s)/\SI n q e s (swp a d c):=by
 let⟨U,h⟩:=CD (f:=CG) (w:=2) (λ_=>B) b.Cs (T8 m)
 let⟨I,l⟩:=CD (f:=CG) (w:=2) (λ_=>B) b.Cs (T8 t)
 have Q:=h.only I l.nb
 subst Q
 let⟨M,E⟩:=h.set (f:=CG) (w:=2) (λ_=>B) b.Cs P (c:=a[c]!) (g:=.S (CG a[c]!)) B (b.dr (Wl t))
 have T:c<(a.l.set d a[c]!).l:=by grind
 let⟨xa,x⟩:=Bb T
 let⟨p,o⟩:=CD (f:=CG) (w:=2) (λ_=>B) E x
 have R:=h.only p o.nb
 subst R
 let⟨N,Z⟩:=o.set (f:=CG) (w:=2) (λ_=>B) E x (c:=a[d]!) (g:=.S (CG a[d]!)) B (b.dr (Wl m))
 have H:=h.nb
 rw[cP H]
 refine⟨_,_,h.ia,l.ia,h.AL (f:=CG) (λ_=>B) (T8 m),l.AL (f:=CG) (λ_=>B) P,M,N,?_⟩
 exact{
  Cs:=by rw[j8];grind
  sub:=λk g=>by
   rw[j8]at g;rcases AfH g with g|rfl
   .rcases AfH g with g|rfl;.exact b.sub k g
    .exact b.sub _ P
   .exact b.sub _ P
  ro:=λk g=>(b.ro k g).Ar λj Y V v S W=>by have u:j≠p:=λJ=>H (by rw[<-J];exact b.HF k g j S);exact⟨by rw[AN,Ad u,AN,Ad u];grind,by grind⟩
  A7:=b.A7
  HF:=b.HF
  fr:=λj v=>by have:=b.fr j v;refine⟨λX=> ?_,by grind⟩;rw[AN,Ad P,AN,Ad P];grind}
def SI.Mc{n:C WE}{s:G}{q:F}{a:Bg WE}(d:SI n s q e a){k l:D}(y:k<a.z)(z:l<a.z):∃j,C8 W9 (.f (pos 85) []) [.S (CG a[k]!),.S (CG a[l]!)] e=A (.n (D6 a[k]!.2 a[l]!.2),j)/\SI n s q j a:=by
 have p:=d.sub _ (Wl y);have u:=d.sub _ (Wl z);have r:∀g∈n,(∀b,¬As g.1 b->(¬As a[k]!.1 b\/¬As a[l]!.1 b))->Fs (λb=>¬As a[k]!.1 b\/¬As a[l]!.1 b) 3 e (.S (CG g)) (.S (Bt.c g.2)):=λg o E=>
  Fs.S (BS.cons ((d.ro g o).fs E (λ_=>B) (λ_=>B)) (BS.cons ((Fs.im (c:=e) (a:=.n g.2.Ax) B).up (by omega)) (BS.nil 2 e)))
 let⟨j,w,i⟩:=BS.FV (BS.cons (r _ p λb h=>.i h) (BS.cons (r _ u λb h=>.j h) (BS.nil 3 e))) (by omega)
 refine⟨j,gh a[k]!.2 a[l]!.2 (d.A7 _ p) e _ j w,?_⟩;have M:∀f,¬As q f->j.M f=e.M f:=λf h=>i.o f (by
  rintro(m|m)
  .exact h (d.HF _ p f m)
  .exact h (d.HF _ u f m))
 exact{
  Cs:=d.Cs.Ar λf J h=>⟨P,by rw[i.l];grind⟩
  sub:=d.sub
  ro:=λg o=>(d.ro g o).Ar λb I v t _ x=>⟨i.p.1 b I v x,by rw[i.l];grind⟩
  A7:=d.A7
  HF:=d.HF
  fr:=λb t=>by have:=d.fr b t;refine⟨λm=> ?_,by rw[i.l];grind⟩;rw[i.o b (by grind)];grind}
theorem IK(a b:WE):BL a b=Ao (D6 a.2 b.2<0):=rfl
def Ye(h:Nat.testBit a c=L){e:Rd}{g:C F}{b:G}{d:F×G}:Aj (C0 a b (C2 (A1 L (.b L)) ⟨c,e,g,f⟩ [])) (A d) O=A d:=by show Aj (Aj (Aj (Nat.testBit a c) L (Bv e g b f)) (C0 a b []) Aa) _ _=_;rw[h];rfl
def Yc{c:Rd}{e:C F}{b:G}{a:F×G}:Aj (C0 16383 b (C2 (A1 L (.b L)) ⟨8,c,e,d⟩ [])) (A a) O=A a:=Ye (by grind)
def Yd{c:Rd}{e:C F}{b:G}{a:F×G}:Aj (C0 8191 b (C2 (A1 L (.b L)) ⟨8,c,e,d⟩ [])) (A a) O=A a:=Ye (by grind)
def jE{c:Rd}{e:C F}{b:G}{a:F×G}:Aj (C0 524287 b (C2 (A1 L (.b L)) ⟨11,c,e,d⟩ [])) (A a) O=A a:=Ye (by grind)
def Zk(b:a<1000000000):A6 .sub [.n (a+1:D),.n 1]=A (.n a):=by rw[FA (by omega) (by omega)];grind
def JU(b:a<1000000000)(c:0<a):A6 .sub [.n a,.n 1]=A (.n (a-1:D)):=by rw[FA (by omega) (by omega)];grind
def Mx(c:a+b<1000000000):A6 .add [.n a,.n b]=A (.n (a+b:D)):=by rw[F2 (by omega) (by omega)];grind
def Mu(c:b<=a)(d:a<1000000000):A6 .sub [.n a,.n b]=A (.n (a-b:D)):=by rw[FA (by omega) (by omega)];grind
def VC(c:a<1000000000)(d:b≠0):A6 .quo [.n a,.n b]=A (.n (a/b:D)):=by rw[X7 _ _ (by unfold Dk;omega) (by omega),Agd (by omega)];grind
def cs(c:D):∀(b:D)(a:Bg _),(insInner BL c b a).z=a.z
 |0,a=>rfl
 |b+1,a=>by
  unfold insInner;split;.rw[cs c b,size_swp]
  omega
def gX{n:C _}{q:G}{h:F}(m c:D)(k:F):∀(a:D){d:G}{b:Bg _},SI n q h d b->a<b.z->b.z<1000000000->∃p,jj W9 211 3 [.n a,.n m,k,.n c,.f (pos 85) [],h] d=jj W9 211 2 [.n m,k,.n c,.f (pos 85) [],h] p/\SI n q h p (insInner BL c a b)
 |0,d,b,e,g,v=>by
  have l:¬c<((0:D):K):=by omega
  refine⟨d,?_,e⟩;rw[MN.2.2.2.2.1];simp only[↓Q,↓QT,AdM,l]
 |a+1,d,b,e,g,v=>by
  by_cases l:c<a+1
  .have f:c<((a+1:D):K):=by omega
   let⟨E,_⟩:=e.rd g
   let⟨H,J⟩:=e.rd (a:=a) (by omega)
   let⟨t,I,r⟩:=e.Mc g (l:=a) (by omega)
   have y:=Zk (a:=a) (by omega);by_cases o:D6 b[a+1]!.2 b[a]!.2<0
   .let⟨z,_,_,_,_,_,_,_,s⟩:=r.KM g (c:=a) (by omega)
    let⟨u,w,x⟩:=gX m c k a s (by rw[size_swp];omega) (by rw[size_swp];grind)
    refine⟨u,?_,?_⟩;.rw[MN.2.2.2.2.1];simp only[Q,QT,f,Yc,o,MN.2.2.2.2.2.1,MN.2.2.2.2.2.2,w,ZR, *]
    .have:insInner BL c (a+1) b=insInner BL c a (swp b (a+1) a):=by
      show(if _ then _ else _)=_
      rw[Af]
      rw[AdO,AdV]
      exact⟨l,by rw[IK,AdV];grind⟩
     grind
   .refine⟨t,?_,?_⟩;.rw[MN.2.2.2.2.1];simp only[Q,QT,AdM,f,Yc,o,ZR, *]
    .have:insInner BL c (a+1) b=b:=by
      show(if _ then _ else _)=_
      rw[Ad]
      rw[AdO,IK,AdV]
      grind
     grind
  .have f:¬c<((a+1:D):K):=by omega
   refine⟨d,?_,?_⟩;.rw[MN.2.2.2.2.1];simp only[↓Q,↓QT,AdM,f]
   .have:insInner BL c (a+1) b=b:=by
     show(if _ then _ else _)=_
     grind
    grind
def gY{h:C _}{m:G}{g:F}(e b:D):∀(f a:D){d:G}{c:Bg WE},b-a=f->SI h m g d c->b<=c.z->c.z<1000000000->a<1000000000->∃l,jj W9 211 1 [.n b,.n e,.f (pos 85) [],g,.n a] d=A (.AB [],l)/\SI h m g l (insOuter BL e b a c)
 |0,a,d,c,s,j,q,n,r=>by
  have k:¬a<(b:K):=by omega
  refine⟨d,?_,?_⟩;.rw[MN.2.1];simp only[↓Q,↓QT,AdM,k]
  .rw[insOuter,Ad (by omega)];grind
 |f+1,a,d,c,s,j,q,n,r=>by
  have k:(a:K)<(b:K):=by omega
  let⟨u,v,o⟩:=gX a e (.n (b:K)) a j (by omega) n
  let⟨p,w,t⟩:=gY e b f (a+1) (by omega) o (by rw[cs];grind) (by rw[cs];grind) (by omega)
  refine⟨p,?_,?_⟩;.rw[MN.2.1];simp only[↓Q,↓QT,MN.2.2.1,MN.2.2.2.1,↓H (Bh (a:=a) (by omega)), *]
  .rw[insOuter,Af (by omega)];grind
def pW{e:C _}{h f:G}{c:Bg WE}(j:SI e h d f c)(o:a<=b)(m:b<=c.z)(p:c.z<100000000):∃g,W9 (pos 211) [d,.n a,.n b,.f (pos 85) []] f=A (.AB [],g)/\SI e h d g (insertionSort BL c a b):=by
 let⟨l,n,k⟩:=gY a b (b-(a+1)) (a+1) B j m (by omega) (by omega)
 refine⟨l,AZ B B ?_,k⟩;rw[MN.1];simp only[↓H (Bh (a:=a) (by omega)),n]
def uq(b:a<400000000):A6 .mul [.n 2,.n a]=A (.n (2*a:D)):=by rw[Vg 2 _ (by unfold Dk;omega) (by unfold Dk;omega)];grind
def VP(d e:D):∀(b c:D)(a:Bg WE),d-c<=b->(siftDown BL d e c a).z=a.z
 |0,c,a,f=>by rw[siftDown,dif_pos (by omega)]
 |b+1,c,a,f=>by
  rw[siftDown];split;.rfl
  .split
   .split;.rfl
    .split;.rw[VP _ _ b _ _ (by omega),size_swp]
     omega
   .split;.rfl
    .rw[VP _ _ b _ _ (by omega),size_swp]
def jU{p:C WE}{u:G}{l:F}(g d:D):∀(o c:D){t:G}{f:Bg WE},g-c<=o->SI p u l t f->d+g<=f.z->f.z<100000000->c<100000000->∃m,jj W9 250 1 [.n g,.f (pos 85) [],l,.n d,.n c] t=A (.AB [],m)/\SI p u l m (siftDown BL g d c f)
 |o,c,t,f,xk,q,xh,xm,xl=>by
  have xn:=uq (a:=c) (by omega);have V:=Bh (a:=2*c) (by omega);by_cases s:2*c+1>=g
  .have w:g<=((2*c+1:D):K):=by omega
   refine⟨t,?_,?_⟩;.rw[MO.2.1];simp only[QY, *]
   .rw[siftDown,dif_pos s];grind
  .cases o with
   |zero=>omega
   |succ o=>
   have w:¬g<=((2*c+1:D):K):=by omega
   have W:=Bh (a:=2*c+1) (by omega)
   have E:∀(e:D){y:G},SI p u l y f->e<g->e>c->e<200000000->∃m,jj W9 250 3 [.n (c:K),.n (e:K),.n (g:K),.f (pos 85) [],l,.n (d:K)] y=A (.AB [],m)/\SI p u l m (if !BL f[d+c]! f[d+e]!then f else siftDown BL g d e (swp f (d+c) (d+e))):=by
    intro e y v xg xi xj;have xf:=Mx (a:=d) (b:=c) (by omega);have xe:=Mx (a:=d) (b:=e) (by omega);let⟨P,xo⟩:=v.rd (a:=d+c) (by omega)
    let⟨R,T⟩:=v.rd (a:=d+e) (by omega)
    let⟨I,J,r⟩:=v.Mc (k:=d+c) (l:=d+e) (by omega) (by omega)
    rw[Kv]at J;have xb:DE [.b L]=A (.b Aa):=B;have xa:DE [.b Aa]=A (.b L):=B;by_cases h:D6 f[d+c]!.2 f[d+e]!.2<0
    .let⟨k,_,_,_,_,_,Y,Z,M⟩:=r.KM (d:=d+c) (c:=d+e) (by omega) (by omega)
     let⟨N,S,U⟩:=jU g d o e (by omega) M (by rw[size_swp];grind) (by rw[size_swp];grind) (by omega)
     refine⟨N,?_,?_⟩;.rw[MO.2.2.2.1];simp only[QY,Kv,h,MO.2.2.2.2,S, *]
     .rw[IK,A0 h,Ad (by grind)];grind
    .refine⟨I,?_,?_⟩;.rw[MO.2.2.2.1];simp only[QY,Kv,h, *]
     .rw[IK,A2 h,Af (by grind)];grind
   by_cases X:2*c+1+1<g
   .have x:((2*c+1+1:D):K)<(g:K):=by omega
    have xc:=Mx (a:=d) (b:=2*c+1) (by omega);have xd:=Bh (a:=d+(2*c+1)) (by omega);let⟨P,_⟩:=q.rd (a:=d+(2*c+1)) (by omega)
    let⟨R,T⟩:=q.rd (a:=d+(2*c+1)+1) (by omega)
    let⟨I,J,r⟩:=q.Mc (k:=d+(2*c+1)) (l:=d+(2*c+1)+1) (by omega) (by omega)
    by_cases h:D6 f[d+(2*c+1)]!.2 f[d+(2*c+1)+1]!.2<0
    .let⟨k,z,H⟩:=E (2*c+1+1) r (by omega) (by omega) (by omega)
     refine⟨k,?_,?_⟩;.rw[MO.2.1];simp only[Q,QT,AdM,w,MO.2.2.1,x,jE,h,z,ZR, *]
     .rw[siftDown,dif_neg s,Af (by rw[AdO,AdV,IK,AdV];grind)];grind
    .let⟨k,z,H⟩:=E (2*c+1) r (by omega) (by omega) (by omega)
     refine⟨k,?_,?_⟩;.rw[MO.2.1];simp only[Q,QT,AdM,w,MO.2.2.1,x,jE,h,z,ZR, *]
     .rw[siftDown,dif_neg s,Ad (by rw[AdO,AdV,IK,AdV];grind)];grind
   .have x:¬((2*c+1+1:D):K)<(g:K):=by omega
    let⟨k,_,H⟩:=E (2*c+1) q (by omega) (by omega) (by omega)
    refine⟨k,?_,?_⟩;.rw[MO.2.1];simp only[QY,MO.2.2.1, *]
    .rw[siftDown,dif_neg s,Ad (by grind)];grind
def f0{f:C WE}{g:G}{e:F}{c:Bg WE}(j:SI f i e g c){d:D}(m:d+a<=c.z)(o:c.z<100000000)(n:b<100000000):∃h,W9 (pos 250) [e,.n b,.n a,.n d,.f (pos 85) []] g=A (.AB [],h)/\SI f i e h (siftDown BL a d b c):=by
 let⟨l,p,k⟩:=jU a d (a-b) b Om j m o n
 refine⟨l,AZ B B ?_,k⟩;rw[MO.1];grind
