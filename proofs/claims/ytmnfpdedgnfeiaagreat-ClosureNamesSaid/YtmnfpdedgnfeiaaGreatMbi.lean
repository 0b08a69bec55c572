/- Part of the proof. -/
import Derived.Sort.LotA
import Derived.Sort.LotB
import Derived.Sort.LotC
import Derived.Test.YtmnfpdedgnfeiaaGreatMbh
set_option linter.all false
noncomputable section
open Option renaming some->A,none->O,getD->Option.g,bind->Option.b
open _root_ renaming rfl->B,List->C,Nat->D,Int->K,if_neg->Ad,if_pos->Af,Option->Aj,Bool->Ak,cond->An,absurd->A_,decide_eq_false->Ba,decide_eq_true->Be,Array->Br
open Bool renaming true->L,false->Ac
open Decidable renaming decide->Au
open Nat renaming beq->Bb,le_refl->C6
open List renaming replicate->Bv,length->List.l,map->List.m,take->List.t,drop->List.d,flatMap->List.f
open Go.IntKind renaming i64->Go.IntKind.n
open Array renaming toList->Array.l,size->Array.z
open Eq renaming trans->Eq.t,symm->Eq.s
open Or renaming inl->Or.i,inr->Or.j
open Int renaming toNat->Int.n
namespace Go.Proofs.YtmnfpdedgnfeiaaGreat
open Go.Fg
variable{f:Ah}{h:D}
def Gz.of{j:C Ab}{g:Ah}{b i:D}{e c:AP}{d:Ab}{k:AD}(a:Gz j f h e b i c d k)(l:g.T[b]? =f.T[b]?):Gz j g h e b i c d k:=⟨a.AN,a.Ao,a.lt,l.t a.Cp,a.FM,a.hn,a.op,a.CO⟩
variable{d:AP}{g:D}
def L9.of{e:Ah}{b:D}{c:AP}(a:L9 e g c b d)(h:f.T[b]? =e.T[b]?):L9 f g c b d:=⟨a.next,a.lt,h.t a.Cp,a.A4,a.AN,a.Ao,a.As⟩
def Dk.of{h:C Ab}{g:Ah}(c:Dk h f)(n:g.T=f.T):Dk h g where
 AX:=by rw[n];exact c.AX
 Bw:=λb a d=>c.Bw b a (by grind)
 up:=λb a d=>by
  rcases c.up b a (by grind)with e|⟨q,o,k,l,p,j⟩;.omega
  .exact .j ⟨q,o,k,l,p,j.of (by grind)⟩
 next:=λb a d=>by
  rcases c.next b a (by grind)with e|⟨e,m,i⟩;.omega
  .exact .j ⟨e,m,i.of (by grind)⟩
 As:=λb a d=>c.As b a (by grind)
 DL:=λb a d=>c.DL b a (by grind)
def Dk.S2{s:C Ab}(k:Dk s f){j:D}{h:AP}(g:f.T[j]? =A h){t:K}{e:D}{d:AP}(x:L9 f j {h with next:=t} e d):Dk s (f.AM j {h with next:=t})where
 AX:=by show(f.T.set j _).l<=400;rw[Aiv];exact k.AX
 Bw:=λc d a=>by
  rcases IM g a with⟨rfl,rfl⟩|⟨_,a⟩;.obtain⟨o,l,u⟩:=k.Bw c h g;exact⟨o,l,u.BG ⟨B,B,B,B,B,B,B,B⟩⟩
  .exact k.Bw c d a
 up:=λc d a=>by
  have r:∀i:AP,(i.AN= -1\/∃m p o l q,Gz s f c i m p o l q)->(i.AN= -1\/∃m p o l q,Gz s (f.AM j {h with next:=t}) c i m p o l q):=by
   rintro i (e|⟨m,p,o,l,q,b⟩)
   .omega
   .right;by_cases v:m=j;.subst v;have E:=AiI (b.Cp.s.t g);subst E;obtain⟨e,u⟩:=b.FM;exact⟨m,p,_,l,q,b.AN,b.Ao,b.lt,JO g,⟨e,u.BG ⟨B,B,B,B,B,B,B,B⟩⟩,b.hn,b.op,b.CO⟩
    .exact⟨m,p,o,l,q,b.of (by show(f.T.set j _)[m]? =_;grind)⟩
  rcases IM g a with⟨rfl,rfl⟩|⟨_,a⟩
  .rcases r h (k.up c h g)with e|⟨m,p,o,l,q,b⟩;.grind
   .exact .j ⟨m,p,o,l,q,b.AN,b.Ao,b.lt,b.Cp,b.FM,b.hn,b.op,b.CO⟩
  .exact r d (k.up c d a)
 next:=λc y a=>by
  have r:∀i:AP,(i.next= -1\/∃e d,L9 f c i e d)->(i.next= -1\/∃e d,L9 (f.AM j {h with next:=t}) c i e d):=by
   rintro i (F|⟨w,z,n⟩)
   .omega
   .right;by_cases v:w=j;.rw[(AiI (n.Cp.s.t (by grind)):z=h),v]at n;exact⟨j,_,n.next,n.lt,JO g,n.A4,n.AN,n.Ao,n.As⟩
    .exact⟨w,z,n.of (by show(f.T.set j _)[w]? =_;grind)⟩
  rcases IM g a with⟨rfl,rfl⟩|⟨_,a⟩;.exact .j ⟨e,d,x.of (by show(f.T.set c _)[e]? =_;rw[AiU (by have:=x.lt;omega)])⟩
  .exact r y (k.next c y a)
 DL:=λc d a e=>by
  rcases IM g a with⟨rfl,rfl⟩|⟨_,a⟩;.exact k.DL c h g e
  .exact k.DL c d a e
 As:=λc d a=>by
  rcases IM g a with⟨rfl,rfl⟩|⟨_,a⟩;.exact k.As c h g
  .exact k.As c d a
def Dk.K1{k:C Ab}{d:Ah}(l:Dk k d){g:AP}{u:C AG}{w q:K}(z:d.T.l<400)(y:∃e f,DU k e f g)(r:∃j h e f i,Gz k d d.T.l g j h e f i)(E:g.next= -1)(F:0<=g.As/\g.As<=(d.T.l:K)):Dk k ⟨d.T++[g],u,w,q⟩:=by
 have v:∀{a:D},a<d.T.l->(d.T++[g])[a]? =d.T[a]? :=P;have m:∀{a:D}{b:AP},(d.T++[g])[a]? =A b->(a<d.T.l/\d.T[a]? =A b)\/(a=d.T.l/\b=g):=P;have t:∀{a:D}{b:AP},d.T[a]? =A b->a<d.T.l:=P;exact{
  AX:=by grind
  Bw:=λa b c=>by
   rcases m c with⟨_,c⟩|⟨_,rfl⟩;.exact l.Bw a b c
   omega
  up:=λa b c=>by
   have s:∀{a b},(b.AN= -1\/∃j h e f i,Gz k d a b j h e f i)->(b.AN= -1\/∃j h e f i,Gz k ⟨d.T++[g],u,w,q⟩ a b j h e f i):=by
    rintro a b (n|⟨j,h,e,f,i,o⟩)
    .omega
    .exact .j ⟨j,h,e,f,i,o.of (v (t o.Cp))⟩
   rcases m c with⟨_,c⟩|⟨rfl,rfl⟩;.exact s (l.up a b c)
   .exact s (.j r)
  DL:=λa b c n=>by
   rcases m c with⟨_,c⟩|⟨rfl,rfl⟩;.exact l.DL a b c n
   .let⟨j,h,e,f,i,o⟩:=r
    have:=o.AN;omega
  next:=λa b c=>by
   rcases m c with⟨_,c⟩|⟨rfl,rfl⟩
   .rcases l.next a b c with n|⟨n,x,p⟩;.omega
    .exact .j ⟨n,x,p.of (v (t p.Cp))⟩
   omega
  As:=λa b c=>by
   rcases m c with⟨_,c⟩|⟨rfl,rfl⟩;.exact l.As a b c
   omega}
variable{e:D}
def Wy{d:C Ab}(i:Bj d){b:Ab}(k:d[e]? =A b)(n m o:K)(j:C M)(l:(j.l:K)=b.Ap):DU d e b {Dl d b e n m o with Ap:=j}where
 ha:=B
 hb:=k
 Ap:=l
 AB:=by show(List.map _ b.Ay).l=_;grind
 AI:=by show(Bv _ _).l=_;grind
 A5:=by show(List.map _ b.Ay).l=_;grind
 Aw:=λg c h f a=>by
  have a:(b.Ay.m λc=>Bv (C_ d c).n AK)[g]? =A h:=a;rw[AiL,f]at a;cases a
  have:=SK i c;grind
 BS:=λg c h f a=>by
  have a:(b.Ay.m λc=>Bv (C_ d c).n E3)[g]? =A h:=a;rw[AiL,f]at a;cases a
  have:=SK i c;grind
def dy{a:Ab}(c:1<=a.Ap)(b:M):(((Bv a.Ap.n AK).set 0 b).l:K)=a.Ap:=by grind
structure HX(c d:Ah):Prop where
 AX:d.T.l=c.T.l
 Cp:∀(e:D) a,c.T[e]? =A a->∃b,d.T[e]? =A b/\D4 a b/\b.next=a.next
def HX.refl(b:Ah):HX b b:=⟨B,λd a c=>⟨a,c,D4.refl a,B⟩⟩
variable{c:Ah}
def HX.AM{b a:AP}(h:c.T[e]? =A b)(k:D4 b a)(i:a.next=b.next):HX c (c.AM e a):=⟨Aiv,λj f d=>by
 by_cases g:e=j;.subst g;rw[h]at d;cases d;exact⟨a,JO h,k,i⟩
 .exact⟨f,SU d g,D4.refl f,B⟩⟩
variable{a:Ah}
def Vj{c:C Ab}{b:AP}(d:a.T[e]? =A b):HX a (Cl c a e).1/\(Dk c a->Dk c (Cl c a e).1):=by
 unfold Cl;simp only[DM d];split;.exact⟨HX.refl a,id⟩
 .have:=Ns (A9 (a.at b.AN.n)) (Nx c (a.at b.AN.n) b.Ao.n) b (Nx c (a.at b.AN.n) b.Ao.n).l;exact⟨HX.AM d P Om,λf=>f.AM d P Om⟩
def fy{i:C Ab}{f:D}{b:AP}(h:a.T[f]? =A b)(g:D->M)(d:D)(c:BC)(e:D):HX a (a.AM f (B7 g d c b e).1)/\(Dk i a->Dk i (a.AM f (B7 g d c b e).1)):=by have:=Ty g d c b e;exact⟨HX.AM h P Om,λj=>j.AM h P Om⟩
def VJ{b:C Ab}{c f:D}{g:AP}(h:a.T[c]? =A d)(i:d.AN=(f:K))(e:a.T[f]? =A g):HX a (Et b a c).1/\(Dk b a->Dk b (Et b a c).1):=by unfold Et;simp only[DM h,i,Aif,DM e];exact fy e _ _ _ _
def Aet{e:C Ab}{b f:D}{c h:AP}(i:a.T[b]? =A c)(j:c.AN=(f:K))(d:a.T[f]? =A h)(g:M):HX a (HU a b g).1/\(Dk e a->Dk e (HU a b g).1):=by unfold HU;simp only[DM i,j,Aif,DM d];exact fy d _ _ _ _
structure Jr(c d:Ah):Prop where
 AX:c.T.l<=d.T.l
 Cp:∀(e:D) a,c.T[e]? =A a->∃b,d.T[e]? =A b/\D4 a b
variable{b:Ah}
def HX.O_(c:HX a b):Jr a b:=⟨by rw[c.AX];omega,λf d e=>by obtain⟨i,g,h,_⟩:=c.Cp f d e;grind⟩
def Jr.refl(a:Ah):Jr a a:=(HX.refl a).O_
def Jr.AQ(d:Jr a b)(f:Jr b c):Jr a c:=⟨AiN d.AX f.AX,λe l g=>by obtain⟨m,h,j⟩:=d.Cp e l g;obtain⟨n,i,k⟩:=f.Cp e m h;exact⟨n,i,j.AQ k⟩⟩
def Abx{b:C Ab}{c f:AP}(i:a.T[e]? =A c)(j:c.next=(g:K))(d:a.T[g]? =A f):HX a (Gp b a e).1/\(Dk b a->Dk b (Gp b a e).1):=by unfold Gp;simp only[DM i,j,Aif,DM d];have:=Ns (A9 c) (Ch b c).A6 f (Ch b c).A6.l;exact⟨HX.AM d P Om,λh=>h.AM d P Om⟩
def Wz{c:C Ab}(q:Bj c)(k:Dk c b){F y:D}{a s:AP}{t:Ab}{E:AD}(l:b.T[e]? =A a)(h:Gz c b e a F y s t E){i:D}{g:Ab}(j:DU c i g a):Jr b (Fh c b e).1/\Dk c (Fh c b e).1/\((Fh c b e).2.2=0->∃u z v,(Fh c b e).1.T[e]? =A u/\L9 (Fh c b e).1 e u z v):=by
 have S:e<b.T.l:=P;unfold Fh;simp only[DM l];by_cases o:a.next= -1
 .rw[Af o];by_cases M:b.T.l=400
  .have N:ED c b a.A4 a.AN a.Ao (a.As+1) (B8 c a)=(b,5):=by unfold ED;grind
   rw[N];have:((5:K)≠0):=by omega
   rw[Af this];exact⟨Jr.refl b,k,P⟩
  .have Q:ED c b a.A4 a.AN a.Ao (a.As+1) (B8 c a)=(⟨b.T++[{Dl c g i a.AN a.Ao (a.As+1)with Ap:=(Bv g.Ap.n AK).set 0 (B8 c a)}],b.Ae,b.round,b.Aq⟩,0):=by
    unfold ED;rw[Ad M,j.ha,Aif,j.hb]
   rw[Q]
   have J:¬((0:K)≠0):=by omega
   rw[Ad J]
   have H:=q.A4 i g j.hb
   have V:=k.As e a l
   have U:=k.AX
   have I:=k.K1 (g:={Dl c g i a.AN a.Ao (a.As+1)with Ap:=(Bv g.Ap.n AK).set 0 (B8 c a)}) (u:=b.Ae) (w:=b.round) (q:=b.Aq) (by omega) ⟨i,g,Wy q j.hb _ _ _ _ (dy H.Ap.1 _)⟩ ⟨F,y,s,t,E,h.AN,h.Ao,by have:=h.lt;omega,h.Cp,h.FM,h.hn,h.op,h.CO.t j.ha⟩ B (by show 0<=a.As+1/\a.As+1<=_;omega)
   have p:(⟨b.T++[{Dl c g i a.AN a.Ao (a.As+1)with Ap:=(Bv g.Ap.n AK).set 0 (B8 c a)}],b.Ae,b.round,b.Aq⟩:Ah).T[e]? =A a:=by grind
   have R:(⟨b.T++[{Dl c g i a.AN a.Ao (a.As+1)with Ap:=(Bv g.Ap.n AK).set 0 (B8 c a)}],b.Ae,b.round,b.Aq⟩:Ah).T[b.T.l]? =A {Dl c g i a.AN a.Ao (a.As+1)with Ap:=(Bv g.Ap.n AK).set 0 (B8 c a)}:=by grind
   have n:L9 _ e {a with next:=(b.T.l:K)} b.T.l _:=⟨B,S,R,j.ha.s,B,B,B⟩
   refine⟨⟨?_,λT G x=> ?_⟩,I.S2 p n,λ_=>⟨_,_,_,JO p,n.of ?_⟩⟩
   .show _<=((b.T++_).set e _).l;grind
   .by_cases w:e=T;.subst w;rw[l]at x;cases x;exact⟨_,JO p,⟨B,B,B,B,B,B,B,B⟩⟩
    .refine⟨G,SU ?_ w,D4.refl G⟩;grind
   .show((b.T++_).set e _)[b.T.l]? =_;grind
 .rw[Ad o];refine⟨Jr.refl b,k,λ_=> ?_⟩;obtain⟨z,v,n⟩:=(k.next e a l).resolve_left o;grind
def AbC{a:C Ab}(n:Bj a)(g:Dk a b){c v s:D}{o:AP}{p:Ab}{u:AD}(f:b.T[c]? =A d)(e:Gz a b c d v s o p u){t:D}{q:Ab}(j:DU a t q d):Jr b (EM a b c).1/\Dk a (EM a b c).1:=by
 unfold EM;simp only[DM f];split;.exact⟨Jr.refl b,g⟩
 .split;.have:=Aet (e:=a) f e.AN e.Cp (B8 a d);exact⟨this.1.O_,P⟩
  .obtain⟨k,w,m⟩:=Wz n g f e j;split;.grind
   .rename_i i;have i:(Fh a b c).2.2=0:=Om;obtain⟨x,z,y,r,h⟩:=m i;have:=Abx (b:=a) r h.next h.Cp;exact⟨k.AQ this.1.O_,P⟩
def u4{b:C Ab}(s:Bj b)(j:Dk b c){a:D}{n:AP}(g:c.T[a]? =A n):Jr c (Eb b c a).1/\Dk b (Eb b c a).1:=by
 unfold Eb;simp only[DM g];split;.exact⟨Jr.refl c,j⟩
 .rename_i I;obtain⟨e,w⟩:=Vj (c:=b) g;have k:=w j;obtain⟨o,h,q,_⟩:=e.Cp a n g;obtain⟨R,J,z,F,P,m⟩:=(k.up a o h).resolve_left (by rw[q.AN];omega);obtain⟨f,x⟩:=VJ (b:=b) h m.AN m.Cp;have d:=x k;split;.exact⟨e.O_.AQ f.O_,d⟩
  .split;.exact⟨e.O_.AQ f.O_,d⟩
   .obtain⟨p,i,y,_⟩:=f.Cp a o h;obtain⟨S,M,E,G,Q,u⟩:=(d.up a p i).resolve_left (by rw[y.AN,q.AN];omega);obtain⟨N,H,r⟩:=d.Bw a p i;obtain⟨v,t⟩:=AbC s d i u r;exact⟨e.O_.AQ (f.O_.AQ v),t⟩
def D9(b:CW)(d:G)(c:Ah)(a:Aa->Prop):Prop:=∃e,Cn b d c e a
def D9.ext{c:CW}{e f:G}{d:Ah}{b:Aa->Prop}(a:D9 c e d b)(g:AR e f):D9 c f d b:=by let⟨h,a⟩:=a;exact⟨h,a.ext g⟩
def D9.V{e:CW}{b c:G}{d:Aa->Prop}(a:D9 e b f d)(g:AR b c):D9 e c f (Fo d b c):=by let⟨h,a⟩:=a;exact⟨h,a.V g⟩
def D9.sub{d:CW}{f:G}{e:Ah}{b c:Aa->Prop}(a:D9 d f e b)(h:∀g,c g->b g):D9 d f e c:=by let⟨i,a⟩:=a;exact⟨i,a.sub h⟩
def D9.Dy{e:CW}{c:G}{b:Aa->Prop}(a:D9 e c f b){d:Aa}(g:b d):Lv c d:=by let⟨h,a⟩:=a;exact a.Dy g
def uR{b:CW}(v:Bj b.l){h:G}{u:Aa->Prop}(j:D9 b h f u)(w:Dk b.l f){a:D}(xh:a<f.T.l):∃y,W9 (Ar 77) [.p b.x 0,.n a] h=A (.AC [.b (Eb b.l f a).2.1,.n (Eb b.l f a).2.2],y)/\D9 b y (Eb b.l f a).1 u/\BD u h y:=by
 let⟨xR,j⟩:=j
 let⟨d,c⟩:=Bo xh
 have X:=j;obtain⟨xS,i,k,rfl,xF⟩:=X;have xr:=AJ k.N 2;let⟨xC,xj,xo⟩:=k.Lk c
 have xf:=AJ (k.Bw a d c).N 1;let⟨V,g,e⟩:=w.Bw a d c
 unfold Eb;simp only[DM c];by_cases q:d.AN= -1
 .rw[Af q];have W:h.AA b.x 0=A (Z Ab.c b.l):=AJ k.N 0;have R:h.AA (i.pc a) 0=A (.n V):=by rw[AJ (k.Bw a d c).N];show A (F.n d.A4)=_;rw[e.ha]
  refine⟨h,Bd B B ?_,⟨i.pc,j⟩,P⟩;rw[Oc.1];by_cases p:(g.A6.l:K)=0<;>simp only[QY,Oc.2.1,H (Da e.hb), *]
 rw[Ad q];let⟨xO,xH,xw,xz,xL,xd⟩:=(w.up a d c).resolve_left q
 let⟨xE,xk,Y,xt⟩:=tl v j c xd e
 let⟨xb,xp⟩:=Vj (c:=b.l) c
 have M:=xp w;let⟨S,r,s,_⟩:=xb.Cp a d c
 let⟨xP,xI,xx,xA,xM,x⟩:=(M.up a S r).resolve_left (by rw[s.AN];grind)
 have I:=e.BG s;let⟨m,xl,n,xu⟩:=tm v Y r x I
 let⟨xc,xq⟩:=VJ (b:=b.l) r x.AN x.Cp
 have N:=xq M;by_cases T:(Et b.l (Cl b.l f a).1 a).2.2=0
 .rw[Ad (by grind)];let⟨o,z,E,_⟩:=xc.Cp a S r
  have J:=I.BG E;rw[e.BB];let⟨xT,xU,Q,xi,xG⟩:=n
  have W:=Q.N;have t:=Q.Bw a o z;rw[xi]at t;have R:m.AA (i.pc a) 0=A (.n V):=by rw[AJ t.N];show A (F.n o.A4)=_;rw[J.ha]
  have xD:m.AA (i.pc a) 1=A (.n d.AN):=by rw[AJ t.N];show A (F.n o.AN)=_;rw[E.AN,s.AN]
  have xm:AW m [.pi ((Ab.c g).d 3)]=A (Z AH.c g.A6):=B;by_cases p:g.A6.l=0
  .rw[Af p];have U:(g.A6.l:K)=0:=by omega
   refine⟨m,Bd B B ?_,⟨i.pc,n⟩,P⟩;rw[Oc.1];simp only[QY,xm,MB,xr,xj,xo,xf,q,xk,xl,T,Oc.2.2.1,Oc.2.1,W,R,Da e.hb,U]
  .rw[Ad p];have U:¬(g.A6.l:K)=0:=by omega
   let⟨xQ,xJ,xy,xB,xN,xe⟩:=(N.up a o z).resolve_left (by rw[E.AN,s.AN];grind)
   let⟨xg,xn,xK,xa,xv,xs⟩:=tn v n z xe J p N
   refine⟨xg,Bd B B ?_,⟨xn,xa⟩,P⟩;rw[Oc.1];simp only[QY,MB,Oc.2.2.1,Oc.2.1,H (Da e.hb),Oc.2.2.2, *]
 .rw[Af T];refine⟨m,Bd B B ?_,⟨i.pc,n⟩,P⟩;rw[Oc.1];simp only[QY, *]
def kc{o:Type}{e:C o}{g:o->Ak}{f:D->G->R}{k:G->R}{m:F}{d:G->Prop}(x:∀c h a,e[c]? =A h->d a->g h=L->∃b,f c a=f (c+1) b/\d b)(r:∀c h a,e[c]? =A h->d a->g h=Ac->∃b,f c a=A (m,b)/\d b)(q:∀a,d a->f e.l a=k a):∀a,d a->(e.all g=L->∃b,f 0 a=k b/\d b)/\(e.all g=Ac->∃b,f 0 a=A (m,b)/\d b):=by
 have p:∀j c a,e.l-c=j->c<=e.l->d a->((e.d c).all g=L->∃b,f c a=k b/\d b)/\((e.d c).all g=Ac->∃b,f c a=A (m,b)/\d b):=by
  intro j
  induction j with
  |zero=>grind
  |succ j w=>
   intro c a u t n;let⟨h,v,s⟩:=Eh (b:=e) (a:=c) (by omega)
   grind
 intro a n;have:=p e.l 0 a (by omega) (by omega) n;grind
def kE{J:CW}(xe:Bj J.l){xq:Aa->Bz}{q:G}{xl:D}{r:Aa}{o:AP}{xp xo xf xh:F}{xn xg:D->F}(E:Dt xq q xl r o xp xo xf xh xn xg){Y:D}{b:Ab}(u:DU J.l Y b o){c:D}{a:AD}(m:b.Ay[c]? =A a){j:G}(xc:AR q j)(s t v x:F):(Gy o a=Ac->∃k,jj W9 78 4 [.n b.Ay.l,Z AD.c b.Ay,.p r 0,.n c,s,t,v,x] j=jj W9 78 4 [.n b.Ay.l,Z AD.c b.Ay,.p r 0,.n (c+1:D),s,t,v,x] k/\AR q k)/\(Gy o a=L->∃k,jj W9 78 4 [.n b.Ay.l,Z AD.c b.Ay,.p r 0,.n c,s,t,v,x] j=A (.n 6,k)/\AR q k):=by
 have xj:c<b.Ay.l:=by grind
 have z:=xe.A4 Y b u.hb;have xw:=z.Ay;have w:=z.Ao c a m;have xu:=Dx xj;let⟨xE,R,xk,xi,xd,y,xm,xD⟩:=box j (.I 4 (AD.c a))
 let⟨xG,xF⟩:=F0 j (b:=4) [(.i .u8 0),(.s []),(.n 0),.sn] (c:=AD.c a) xk xi B B
 have xr:=y;have d:=xc.AQ xd;unfold Gy;by_cases M:a.op=6
 .have xv:=w.KU Om;let⟨f,U⟩:=Bo (b:=a.AT) (a:=0) (by omega)
  let⟨g,V⟩:=Bo (b:=a.AT) (a:=1) (by omega)
  let⟨xa,W⟩:=u.Dv (w.AT f P)
  let⟨xb,X⟩:=u.Dv (w.AT g P)
  rw[Be M,Ai5,U,V,Aiz,Aiz,PQ W,PQ X];have xs:=y;have xx:AZ 2 [Z AH.c a.AT,.n 0]=A (.pi (AH.c f)):=Kd (a:=0) U;have xy:AZ 2 [Z AH.c a.AT,.n 1]=A (.pi (AH.c g)):=Kd (a:=1) V;have xB:Bf 2 R [.pi (AH.c f)]=A (.S (AH.c f)):=B;let⟨S,xz,e⟩:=Np (E.ext d) f W
  have h:=Nq xa;by_cases N:xa.Ai=0;.rw[Be N]at h⊢;refine⟨λ_=>⟨S,?_,d.AQ e⟩,P⟩;rw[JI.2.2.2.2.2.1];simp only[QY,JI.2.2.2.2.2.2.1,H (Gq m),h.H B,QB,JI.2.2.2.2.2.2.2,H (BF (a:=c) (by omega)), *]
  .rw[Ba N]at h⊢;have xt:=(e.N xm).t y;have xC:Bf 2 S [.pi (AH.c g)]=A (.S (AH.c g)):=B;let⟨T,xA,I⟩:=Np (E.ext (d.AQ e)) g X
   have p:=Nq xb;by_cases Q:xb.Ai=0;.rw[Be Q]at p⊢;refine⟨λ_=>⟨T,?_,d.AQ (e.AQ I)⟩,P⟩;rw[JI.2.2.2.2.2.1];simp only[QY,JI.2.2.2.2.2.2.1,H (Gq m),h.H B,p.H B,QB,JI.2.2.2.2.2.2.2,H (BF (a:=c) (by omega)), *]
   .rw[Ba Q]at p⊢;refine⟨P,λ_=>⟨T,?_,d.AQ (e.AQ I)⟩⟩;rw[JI.2.2.2.2.2.1];simp only[QY,JI.2.2.2.2.2.2.1,H (Gq m),h.H B,p.H B,QB, *]
 .rw[Ba M,AjA];refine⟨λ_=>⟨R,?_,d⟩,P⟩;rw[JI.2.2.2.2.2.1];simp only[QY,JI.2.2.2.2.2.2.1,H (Gq m),JI.2.2.2.2.2.2.2,H (BF (a:=c) (by omega)), *]
def fk{d:Type}(b:d->Ak)(a:C _):a.any b= !(a.all λc=> !b c):=by grind
def sT{c:CW}(N:Bj c.l){g:G}{e:Ah}{V:Aa->Prop}(W:D9 c g e V)(S:Dk c.l e):∃a,W9 (Ar 78) [.p c.x 0] g=A (.n (LY c.l e),a)/\AR g a:=by
 obtain⟨xj,xk,f,v,rfl,xe⟩:=W
 have U:=C4 v.T
 rw[Aip]at U
 have xf:=S.AX
 have xa:∀(b:D) d a,e.T[b]? =A d->AR g a->∃t h,DU c.l t h d/\jj W9 78 2 [.n e.T.l,f.cv,.p c.x 0,.n b] a=jj W9 78 4 [.n h.Ay.l,Z AD.c h.Ay,.p (f.pc b) 0,.n 0,.n b,.n e.T.l,f.cv,.p c.x 0] a:=by
  intro b d a o u;have T:b<e.T.l:=by grind
  have xd:=Dx T;let⟨t,h,m⟩:=S.Bw b d o
  have w:=v.ext u;let⟨xb,xi,xl⟩:=w.Lk o
  have xn:=w.N;have xc:a.AA (f.pc b) 0=A (.n t):=by rw[AJ (w.Bw b d o).N];show A (F.n d.A4)=_;rw[m.ha]
  refine⟨t,h,m,?_⟩;rw[JI.2.2.1];simp only[QY,JI.2.2.2.1,H (Da m.hb), *]
 have xh:∀(b:D) d a,e.T[b]? =A d->AR g a->((Ch c.l d).Ay.any (Gy d)=Ac->∃j,jj W9 78 2 [.n e.T.l,f.cv,.p c.x 0,.n b] a=jj W9 78 2 [.n e.T.l,f.cv,.p c.x 0,.n (b+1:D)] j/\AR g j)/\((Ch c.l d).Ay.any (Gy d)=L->∃j,jj W9 78 2 [.n e.T.l,f.cv,.p c.x 0,.n b] a=A (.n 6,j)/\AR g j):=by
  intro b d a o u;have T:b<e.T.l:=by grind
  let⟨t,h,m,X⟩:=xa b d a o u
  have M:=v.Bw b d o;rw[m.BB,X];have k:=kc (e:=h.Ay) (g:=λz=> !Gy d z) (f:=λk a=>jj W9 78 4 [.n h.Ay.l,Z AD.c h.Ay,.p (f.pc b) 0,.n k,.n b,.n e.T.l,f.cv,.p c.x 0] a) (k:=λa=>jj W9 78 3 [.n b,.n e.T.l,f.cv,.p c.x 0] a) (m:=.n 6) (d:=λa=>AR g a)
   (λk z a y r Y=>(kE N M m y r _ _ _ _).1 (by grind))
   (λk z a y r Y=>(kE N M m y r _ _ _ _).2 (by grind))
   (λa r=>by show jj W9 78 4 _ _=_;rw[JI.2.2.2.2.2.1];simp only[↓Q,↓QT,Aic,(Dz h.Ay.l)])
   a u
  rw[fk];constructor
  .intro x;let⟨j,s,q⟩:=k.1 (by grind)
   refine⟨j,?_,q⟩;have s:jj W9 78 4 [.n h.Ay.l,Z AD.c h.Ay,.p (f.pc b) 0,.n 0,.n b,.n e.T.l,f.cv,.p c.x 0] a=jj W9 78 3 [.n b,.n e.T.l,f.cv,.p c.x 0] j:=s;rw[s,JI.2.2.2.2.1];simp only[↓Q,↓H (BF (a:=b) (by omega))]
  grind
 have k:=kc (e:=e.T) (g:=λd=> !(Ch c.l d).Ay.any (Gy d)) (f:=λb a=>jj W9 78 2 [.n e.T.l,f.cv,.p c.x 0,.n b] a) (k:=λa=>A (.n 0,a)) (m:=.n 6) (d:=λa=>AR g a)
  P
  P
  (λa r=>by show jj W9 78 2 _ _=_;rw[JI.2.2.1];simp only[↓Q,↓QT,Aic,(Dz e.T.l),JI.2.1])
  g (AR.refl g)
 have xm:∀{J:R},jj W9 78 2 [.n e.T.l,f.cv,.p c.x 0,.n 0] g=J->xx W9 78 [.p c.x 0] g=J:=λ{J} xg=>by rw[JI.1];simp only[QY,v.N,U];grind
 unfold LY
 rw[fk]
 cases x:e.T.all λd=> !(Ch c.l d).Ay.any (Gy d)with
 |true=>
  let⟨a,s,q⟩:=k.1 x
  exact⟨a,Bd B B P,q⟩
 |false=>
  let⟨a,s,q⟩:=k.2 x
  exact⟨a,Bd B B P,q⟩
theorem PB(b:C _)(c:Ah)(a:D):Cb b c (a+1)=if(Cb b c a).2.2≠0\/¬a<(Cb b c a).1.T.l then Cb b c a
 else((Eb b (Cb b c a).1 a).1,(Cb b c a).2.1||(Eb b (Cb b c a).1 a).2.1,(Eb b (Cb b c a).1 a).2.2):=rfl
def WQ{d:C _}{c:Ah}{a:D}(e:(Cb d c a).2.2≠0\/¬a<(Cb d c a).1.T.l):∀b,a<=b->Cb d c b=Cb d c a
 |0,f=>by grind
 |b+1,f=>by
  by_cases g:a=b+1;.grind
  .rw[PB,(WQ e b (by omega)),Af];omega
def WS{b:C Ab}(d:Bj b){a:Ah}(e:Dk b a):∀c,Jr a (Cb b a c).1/\Dk b (Cb b a c).1
 |0=>⟨Jr.refl a,e⟩
 |c+1=>by
  let⟨f,k⟩:=WS d e c
  rw[PB];split;.grind
  .rename_i h;let⟨m,i⟩:=Bo (Aih λj=>h (.j j))
   let⟨g,l⟩:=u4 d k i
   exact⟨f.AQ g,l⟩
def cz{d:C Ab}(e:Bj d){g:D}:∀{h:D}{b:Ah}{c:Ah×K},Dk d b->He d g h b=A c->Jr b c.1/\Dk d c.1
 |0,b,c,f,a=>by cases a
 |h+1,b,c,f,a=>by
  unfold He at a;let⟨i,k⟩:=WS e f g
  split at a;.grind
  .split at a
   .let⟨j,l⟩:=cz e k a
    exact⟨i.AQ j,l⟩
   grind
def cB{a:C Ab}(h:Bj a){f:D}{c:Ah×K}(i:Dk a b)(d:Hf a f g b=A c):Jr b c.1/\Dk a c.1:=by
 unfold Hf at d
 cases e:He a f g b with
 |none=>grind
 |some j=>rw[e]at d;have:=cz h i e;grind
def Acg{a:CW}(u:Bj a.l){f:D}(Z:f=400){j:G}{g:Aa->Prop}(J:D9 a j b g)(x:Dk a.l b):∃d,(((Cb a.l b f).2.2=0/\jj W9 37 3 [.n 0,.b Ac,.p a.x 0] j=jj W9 37 2 [.b (Cb a.l b f).2.1,.p a.x 0] d)\/((Cb a.l b f).2.2≠0/\jj W9 37 3 [.n 0,.b Ac,.p a.x 0] j=A (.n (Cb a.l b f).2.2,d)))/\D9 a d (Cb a.l b f).1 g/\BD g j d:=by
 have T:=Of (f:=f) (d:=λc _ d=>jj W9 37 3 [.n c,.b (Cb a.l b c).2.1,.p a.x 0] d)
  (e:=λc _ d=>(Cb a.l b c).2.2=0/\D9 a d (Cb a.l b c).1 g/\BD g j d)
  (g:=λE=>∃d,(((Cb a.l b f).2.2=0/\E=jj W9 37 2 [.b (Cb a.l b f).2.1,.p a.x 0] d)\/((Cb a.l b f).2.2≠0/\E=A (.n (Cb a.l b f).2.2,d)))/\D9 a d (Cb a.l b f).1 g/\BD g j d)
  (λc _ d Y r=>by
   let⟨t,m,v⟩:=r
   let⟨U,V,W,o,S,N⟩:=m
   have xb:=o.N;have q:=C4 o.T;rw[Aip]at q;by_cases R:c<(Cb a.l b c).1.T.l
   .have p:c<((Cb a.l b c).1.T.l:K):=by omega
    let⟨z,xa,M,X⟩:=uR u m (WS u x c).2 R
    have w:=PB a.l b c;rw[Ad (by grind)]at w;by_cases y:(Eb a.l (Cb a.l b c).1 c).2.2=0
    .left;refine⟨(),z,?_,?_⟩;.show jj _ _ 3 _ _=jj _ _ 3 _ _;rw[w,LU.2.2.2.2.1];simp only[QY,MB,p,LU.2.2.2.2.2.1,y,LU.2.2.2.2.2.2.2,LU.2.2.2.2.2.2.1,H (BF (a:=c) (by omega)), *]
     grind
    .right;rw[(WQ (d:=a.l) (c:=b) (a:=c+1) P f (by omega)),w];refine⟨z,.j ⟨y,?_⟩,M,P⟩;show jj W9 37 3 _ _=_;rw[LU.2.2.2.2.1];simp only[QY,LU.2.2.2.2.2.1, *]
   .right;have p:¬c<((Cb a.l b c).1.T.l:K):=by omega
    rw[(WQ (d:=a.l) (c:=b) (a:=c) Om f (by omega))];refine⟨d,.i ⟨t,?_⟩,m,v⟩;show jj W9 37 3 _ _=_;rw[LU.2.2.2.2.1];simp only[QY, *])
  (λ_ d r=>by
   let⟨t,m,v⟩:=r
   let⟨U,V,W,o,S,N⟩:=m
   have q:=C4 o.T;rw[Aip]at q;have p:¬f<((Cb a.l b f).1.T.l:K):=by have:=(WS u x f).2.AX;omega
   refine⟨d,.i ⟨t,?_⟩,m,v⟩;show jj W9 37 3 _ _=_;rw[LU.2.2.2.2.1];simp only[QY,o.N,q,p])
  (b:=()) (a:=j) ⟨B,J,P⟩
 exact T
def iX{a:CW}(k:Bj a.l){j:D}(n:j=400):∀{o:D}{f:G}{e:Ah}{g:Aa->Prop}{d:Ah×K},D9 a f e g->Dk a.l e->He a.l j o e=A d->∃h,((d.2=0/\jj W9 37 2 [.b L,.p a.x 0] f=jj W9 37 1 [.p a.x 0] h)\/(d.2≠0/\jj W9 37 2 [.b L,.p a.x 0] f=A (.n d.2,h)))/\D9 a h d.1 g/\BD g f h
 |0,_,_,_,_,_,_,b=>by cases b
 |o+1,f,e,g,d,p,m,b=>by
  unfold He at b;let⟨r,c,l,q⟩:=Acg k n p m
  rw[LU.2.2.1];simp only[↓Q,LU.2.2.2.1];rcases c with⟨s,c⟩|⟨s,c⟩
  .rw[Ad (by grind)]at b
   cases i:(Cb a.l e j).2.1 with
   |true=>
    rw[i,Af B]at b;rw[i]at c;let⟨v,w,t,u⟩:=iX k n l (WS k m j).2 b
    grind
   |false=>
    rw[i,Ad (by grind)]at b;cases b
    rw[i]at c;refine⟨r,.i ⟨B,?_⟩,l,q⟩;rw[c,LU.2.2.1];simp only[↓Q]
  grind
def co{b:CW}(h:Bj b.l){k p:D}(u:k=400){i:G}{e:Ah}{g:Aa->Prop}{l:Ah×K}(q:D9 b i e g)(n:Dk b.l e)(a:Hf b.l k p e=A l):∃j,W9 (Ar 37) [.p b.x 0] i=A (.n l.2,j)/\D9 b j l.1 g/\BD g i j:=by
 unfold Hf at a
 cases f:He _ k p e with
 |none=>rw[f]at a;grind
 |some x=>
  rw[f]at a;simp only[Akb]at a;let⟨s,c,d,r⟩:=iX h u q n f
  rcases c with⟨o,c⟩|⟨o,c⟩
  .rw[Ad (by grind)]at a;subst a;let⟨t,_,m⟩:=sT h d (cz h n f).2
   refine⟨t,Bd B B ?_,d.ext m,λw v=>(m.N (d.Dy v)).t P⟩;rw[LU.1,c,LU.2.1];grind
  .rw[Af o]at a;subst a;refine⟨s,Bd B B ?_,d,r⟩;rw[LU.1,c]
structure P4(b:CW)(m:D)(c:Ah->Prop):Prop where
 OE:∀a,c a->Dk b.l a
 Ay:∀a,c a->∀e∈a.T,Rq b.l e
 round:∀a,c a->0<=a.round/\a.round<=6000
 KI:∀a,c a->∀(d:D) h,(Bp b.l a)[d]? =A h->(C1 b.l (Bp b.l a) (a.round+1) ⟨a.T,a.Ae,a.round+1,a.Aq⟩ d).2=0->
  (C1 b.l (Bp b.l a) (a.round+1) ⟨a.T,a.Ae,a.round+1,a.Aq⟩ d).1.round=a.round+1/\∃j l e i f k,Th b (C1 b.l (Bp b.l a) (a.round+1) ⟨a.T,a.Ae,a.round+1,a.Aq⟩ d).1 h j l e i f k
 QL:∀a,c a->(C1 b.l (Bp b.l a) (a.round+1) ⟨a.T,a.Ae,a.round+1,a.Aq⟩ (Bp b.l a).l).2=0->Dk b.l (C1 b.l (Bp b.l a) (a.round+1) ⟨a.T,a.Ae,a.round+1,a.Aq⟩ (Bp b.l a).l).1
 C0:∀a f g,c a->(Bp b.l a).l≠0->KS b.l m f a=A g->g.2=0->c g.1
def Yz{b:C _}{e:C _}{d:K}{a:D}{f:A8}(g:e[a]? =A f):C1 b e d c (a+1)=if(C1 b e d c a).2≠0 then C1 b e d c a else Ev b (C1 b e d c a).1 f d:=by show(if(C1 b _ _ c a).2≠0 then C1 b _ _ c a else match e[a]?with|some f=>Ev b _ f _|none=>C1 b _ d c a)=_;grind
def b1{c:C _}{f:C A8}{e:K}{b:Ah}{d:D}(g:(C1 c f e b d).2≠0):∀a,d<=a->C1 c f e b a=C1 c f e b d
 |0,h=>by grind
 |a+1,h=>by
  by_cases i:d=a+1;.grind
  .have j:=b1 g a (by omega);show(if(C1 c _ _ b a).2≠0 then C1 c _ e b a else _)=_;grind
def sp{b:CW}(xc:Lx b){xn:D}{T:Ah->Prop}(xd:P4 b xn T){o:G}{p:Aa->Prop}(xb:T a){q:F}(xa:D9 b o ⟨a.T,a.Ae,a.round+1,a.Aq⟩ (λg=>p g\/¬AE q g))(xo:AF o q A8.c 2 (Bp b.l a))(xv:(Bp b.l a).l<1000000000)(t:F):
  ∃c,(((C1 b.l (Bp b.l a) (a.round+1) ⟨a.T,a.Ae,a.round+1,a.Aq⟩ (Bp b.l a).l).2=0/\jj W9 51 5 [.n (Bp b.l a).l,q,.n 0,t,.p b.x 0] o=jj W9 51 4 [t,.p b.x 0] c)\/
   ((C1 b.l (Bp b.l a) (a.round+1) ⟨a.T,a.Ae,a.round+1,a.Aq⟩ (Bp b.l a).l).2≠0/\jj W9 51 5 [.n (Bp b.l a).l,q,.n 0,t,.p b.x 0] o=A (.n (C1 b.l (Bp b.l a) (a.round+1) ⟨a.T,a.Ae,a.round+1,a.Aq⟩ (Bp b.l a).l).2,c)))/\
   D9 b c (C1 b.l (Bp b.l a) (a.round+1) ⟨a.T,a.Ae,a.round+1,a.Aq⟩ (Bp b.l a).l).1 p/\BD p o c:=by
 have xi:=xd.KI a xb
 generalize Bp b.l a=d at*
 generalize(⟨a.T,a.Ae,a.round+1,a.Aq⟩:Ah)=m at*
 have xB:=Of (f:=d.l) (d:=λj _ c=>jj W9 51 5 [.n d.l,q,.n (j:K),t,.p b.x 0] c)
  (e:=λj _ c=>(C1 b.l d (a.round+1) m j).2=0/\D9 b c (C1 b.l d (a.round+1) m j).1 (λg=>p g\/¬AE q g)/\BD (λg=>p g\/¬AE q g) o c)
  (g:=λY=>∃c,(((C1 b.l d (a.round+1) m d.l).2=0/\Y=jj W9 51 4 [t,.p b.x 0] c)\/((C1 b.l d (a.round+1) m d.l).2≠0/\Y=A (.n (C1 b.l d (a.round+1) m d.l).2,c)))/\D9 b c (C1 b.l d (a.round+1) m d.l).1 p/\BD p o c)
  (λj _ c V E=>by
   let⟨J,r,xg⟩:=E
   let⟨z,y⟩:=Bo V
   have xt:=Dx V;let⟨xw,xx,xz,xs,xq,W,xy,Z⟩:=xi j z y J
   let⟨xr,M⟩:=Dm (f:=A8.c) (w:=2) (λ_=>B) (xo.Av λg x W=>⟨P,r.Dy (.j W)⟩) y
   have xI:=M.AU (f:=A8.c) (λ_=>B) y;let⟨xF,xk,xm,xl,R,xj,xC,xD⟩:=box c (.I 2 (A8.c z))
   let⟨xM,xJ⟩:=F0 c (b:=2) [(.n 0),(.n 0)] (c:=A8.c z) xm xl B B
   have xH:=B2 xj;have u:=r.ext R;let⟨xE,u⟩:=u
   let⟨xG,xK,xh,x,xu⟩:=u
   have xL:xk.AA b.x 4=A (.n (a.round+1)):=by rw[AJ xh.N];grind
   let⟨v,X,xA,S,xf,_⟩:=iD u xc Z (a.round+1)
   have xe:BD (λg=>p g\/¬AE q g) o v:=λg x=>(xf g x).t ((R.N (r.Dy x)).t P);have N:=Yz (b:=b.l) (d:=a.round+1) (c:=m) y;rw[Ad (by grind)]at N;by_cases U:(Ev b.l (C1 b.l d (a.round+1) m j).1 z (a.round+1)).2=0
   .left;refine⟨(),v,?_,?_⟩;.show jj W9 51 5 _ _=jj W9 51 5 _ _;rw[LW.2.2.2.2.2.2.1];simp only[QY,LW.2.2.2.2.2.2.2.1,H M.ia,LW.2.2.2.2.2.2.2.2,H (BF (a:=j) (by omega)), *]
    .show(C1 _ _ _ _ (j+1)).2=0/\D9 b v (C1 _ _ _ _ (j+1)).1 _/\_;rw[N];exact⟨U,⟨X,S⟩,xe⟩
   .right;have xp:=b1 (c:=b.l) (f:=d) (e:=a.round+1) (b:=m) (d:=j+1) (by grind) d.l (by omega);rw[xp,N];refine⟨v,.j ⟨U,?_⟩,⟨X,S.sub P⟩,P⟩;show jj W9 51 5 _ _=_;rw[LW.2.2.2.2.2.2.1];simp only[QY,LW.2.2.2.2.2.2.2.1,H M.ia, *])
  (λ_ c E=>by
   let⟨J,r,xg⟩:=E
   refine⟨c,.i ⟨J,?_⟩,r.sub P,P⟩;show jj W9 51 5 _ _=_;rw[LW.2.2.2.2.2.2.1];simp only[↓Q,↓QT,Aic,(Dz d.l)])
  (b:=()) (a:=o) ⟨B,xa,P⟩
 grind
def ee{c:CW}{i:G}{g:Aa->Prop}(h:D9 c i f g)(n:Dk c.l f)(r:∀p∈f.T,Rq c.l p):∃e d,W9 (Ar 35) [.p c.x 0] i=A (e,d)/\AF d e A8.c 2 (Bp c.l f)/\D9 c d f (λa=>g a\/¬AE e a)/\BD g i d/\∀a,g a->AE e a:=by
 have m:=h
 let⟨t,_,u,o,_,_⟩:=m
 let⟨e,d,q,l,j,k⟩:=ur o r n.AX
 refine⟨e,d,q,l,(h.V j).sub ?_,λa b=>j.N (h.Dy b),λa b=>k a (h.Dy b)⟩
 rintro a (b|b)
 .grind
 .exact .j ⟨λs=>b (k a s),l.Dh b⟩
def eg{b:CW}(c:Dk b.l a)(e:∀d∈a.T,Rq b.l d):(Bp b.l a).l<1000000000:=by have:=ef e 1000000 (C6 _) a.T.l;have:=c.AX;unfold Bp;omega
def lY{d:CW}(J:Bj d.l)(I:Lx d){p:D}(S:p=400){H:Ah->Prop}(f:P4 d p H){l:D}:∀{T:D}{h:G}{c:Ah}{j:Aa->Prop}{i:F}{q:Ah×K},H c->D9 d h c (λg=>j g\/¬AE i g)->AF h i A8.c 2 (Bp d.l c)->Iy d.l p l T c=A q->∃x,jj W9 51 2 [.n 6001,i,.p d.x 0] h=A (.n q.2,x)/\D9 d x q.1 j/\BD j h x
 |0,_,_,_,_,_,_,_,_,e=>by cases e
 |T+1,h,c,j,i,q,k,z,X,e=>by
  have xh:=f.OE c k;have xw:=f.Ay c k;have xs:=eg xh xw;have W:=C4 X;let⟨xF,xG⟩:=f.round c k
  have xb:=z;let⟨xx,xy,xA,P,n,xr⟩:=xb
  have xB:=P.N;unfold Iy at e;by_cases u:(Bp d.l c).l=0
  .rw[Af u]at e;cases e
   have v:¬0<((Bp d.l c).l:K):=by omega
   refine⟨h,?_,z.sub λg n=>.i n,BD.refl _ _⟩;rw[LW.2.2.1];simp only[QY,W,v,LW.2.1]
  .rw[Ad u]at e
   have v:(0:K)<((Bp d.l c).l:K):=by omega
   have xm:c.round<6001:=by omega
   have xn:=GJ (a:=c.round) (b:=1) (by omega) (by omega)
   let⟨Q,xz,xl,xg⟩:=P.ac (c.round+1)
   have t:=xg.FQ (by grind) xr
   have xc:D9 d Q ⟨c.T,c.Ae,c.round+1,c.Aq⟩ (λg=>j g\/¬AE i g):=⟨xx,xy,xA,xl,n,t.1⟩
   have Y:=X.Av λg n l=>⟨t.2 g (.j l),(t.1 g (.j l)).1⟩
   have xu:=C4 Y
   let⟨xo,m,xd,xC⟩:=sp I f k xc Y xs (.n 6001)
   have Z:∀{s:R},jj W9 51 5 [.n ((Bp d.l c).l:K),i,.n 0,.n 6001,.p d.x 0] Q=s->jj W9 51 2 [.n 6001,i,.p d.x 0] h=s:=λ{s} xE=>by rw[LW.2.2.1];simp only[QY,W,v,xB,xm,LW.2.2.2.1,xn,xz,xu];grind
   have M:BD j h xo:=by grind
   cases o:KS d.l p l c with
   |none=>rw[o]at e;cases e
   |some xa=>
    rw[o]at e;simp only[]at e;have y:=o;unfold KS at y;rcases m with⟨U,m⟩|⟨U,m⟩
    .rw[Ad (by grind)]at y;have xi:=f.QL c k U;let⟨xp,V,E,N⟩:=co J S xd xi y
     by_cases w:xa.2=0
     .rw[Ad (by grind)]at e;have r:=f.C0 c l xa k u o w;let⟨xI,xD,xt,xv,xe,xj,_⟩:=ee E (f.OE _ r) (f.Ay _ r)
      let⟨xq,xH,xf,xk⟩:=lY J I S f r xe xv e
      refine⟨xq,Z ?_,xf,M.AQ (N.AQ (xj.AQ xk))⟩;rw[m,LW.2.2.2.2.2.1];rw[w]at V;simp only[QY,V,LW.2.2.2.2.1,xt];grind
     .rw[Af w]at e;cases e
      refine⟨xp,Z ?_,E,M.AQ N⟩;rw[m,LW.2.2.2.2.2.1];simp only[QY, *]
    .grind
def uv{a:CW}(o:Bj a.l)(n:Lx a)(s:h=400){j:Ah->Prop}(d:P4 a h j){v u:D}{f:G}{e:Ah}{b:Aa->Prop}{i:Ah×K}(c:j e)(k:D9 a f e b)(t:Iy a.l h v u e=A i):∃g,W9 (Ar 51) [.p a.x 0,.n 6001] f=A (.n i.2,g)/\D9 a g i.1 b/\BD b f g:=by
 let⟨E,x,y,w,l,p,_⟩:=ee k (d.OE _ c) (d.Ay _ c)
 let⟨r,z,m,q⟩:=lY o n s d c l w t
 refine⟨r,Bd B B ?_,m,p.AQ q⟩;rw[LW.1];grind
def LX(b:C Ab):D->C (B0×F)
 |0=>[]
 |a+1=>match b[a]?with
  |some c=>LX b a++[(c.Bk,.n (a:K))]
  |none=>LX b a
def dg{e:C Ab}{f:B0}:∀{b:D},(∀(c:D) a,c<b->e[c]? =A a->a.Bk≠f)->Eu (LX e b) f=O
 |0,_=>rfl
 |b+1,g=>by
  have h:=dg (b:=b) λc a j d=>g c a (by omega) d;unfold LX;split;.rename_i a d;rw[Tt,h];grind
  .grind
def kk{g:C Ab}(c:Bj g){a:D}{d:Ab}(f:g[a]? =A d):∀{b:D},a<b->Eu (LX g b) d.Bk=A (.n a)
 |0,j=>by omega
 |b+1,j=>by
  unfold LX;by_cases e:a=b
  .subst e;rw[f];simp only[];rw[Tt,dg λn h p l e=>by have k:=c.Zo n h l;have o:=c.Zo a d f;rw[e]at k;omega]
   grind
  .have m:=kk c f (b:=b) (by omega);split;.rw[Tt,m]
   .grind
def kj{a:C _}(e:Bj a){c:B0}{b:D}(i:CO a c=b):Eu (LX a a.l) c=A (.n b):=by
 rcases RT a c with k|⟨g,h,j,d,f⟩;.omega
 .have:g=b:=by omega
  subst this;rw[<-f];exact kk e d (Aid.1 d).1
def AaK{a:C Ab}(r:Bj a){e:G}{j g:Aa}{xe:C F}(W:e.N j=A (.I 6 (Z Ab.c a::.m g::xe)))(J:Lv e j)(xd:Lv e g)(V:e.N g=A (.Bu [] 0))(xb:j≠g)(o:F):∃b l f,jj W9 34 2 [.n a.l,Z Ab.c a,.n 0,o,.p j 0] e=jj W9 34 1 [o,.p j 0] b/\b.N g=A (.Bu l f)/\Hq l (LX a a.l)/\∀c,Lv e c->c≠g->b.N c=e.N c/\Lv b c:=by
 have xk:=r.AX;let⟨_,b,t,l,f,u,p,q⟩:=Ez (h:=a.l) (f:=λd _ b=>jj W9 34 2 [.n a.l,Z Ab.c a,.n d,o,.p j 0] b)
  (g:=λd _ b=>∃l f,b.N g=A (.Bu l f)/\Hq l (LX a d)/\(∀c,Lv e c->c≠g->b.N c=e.N c)/\∀c,Lv e c->Lv b c)
  (λd _ b E M=>by
   let⟨l,f,u,p,q,z⟩:=M
   let⟨k,w⟩:=Bo E
   have xg:=Dx E;let⟨c,v,m,Y,y,U,xl,xn⟩:=box b (.I 5 (Ab.c k))
   let⟨xq,xo⟩:=F0 b (b:=5) [(.s []),(.n 0),.sn,.sn,.sn] (c:=Ab.c k) m Y B B
   have xm:Bf 5 b [.pi (Ab.c k)]=A (.S (Ab.c k)):=B;have xp:=(y.N (z j J)).t ((q j J xb).t W);have xf:=U;have T:=(y.N (z g xd)).t u;have xa:Eu (LX a d) k.Bk=O:=dg λxc N xj X R=>by have v:=r.Zo xc N X;have xi:=r.Zo d k w;rw[R]at v;omega
   have xh:=gQ T p xa (.n d);have S:LX a (d+1)=LX a d++[(k.Bk,.n d)]:=by show(match a[d]?with|some k=>_|none=>_)=_;rw[w]
   refine⟨(),v.set g (.Bu (l++[⟨.s k.Bk,.n d,f⟩]) (f+1)),?_,_,f+1,by rw[AY,Af B],by rw[S];exact p.Xe _ _ f,λc m x=>by rw[AY,Ad x];grind,λc m=>by grind⟩;show jj W9 34 2 _ _=jj W9 34 2 _ _;rw[KM.2.2.2.2.2.1];simp only[QY,KM.2.2.2.2.2.2.1,H (Da w),KM.2.2.2.2.2.2.2,H (BF (a:=d) (by omega)), *])
  (b:=()) (a:=e) ⟨[],0,V,B,λ_ _ _=>B,λ_ b=>b⟩
 have t:jj W9 34 2 [.n a.l,Z Ab.c a,.n 0,o,.p j 0] e=jj W9 34 2 [.n a.l,Z Ab.c a,.n a.l,o,.p j 0] b:=t;have P:=Dz a.l;refine⟨b,l,f,?_,u,p,λc m x=>⟨q.1 c m x,q.2 c m⟩⟩;rw[t,KM.2.2.2.2.2.1];simp only[↓Q,↓QT,Aic,P]
def qW{b:G}{h f:F}{a c:C M}(w:AF b h M.c 2 a)(j:AF b f M.c 2 c)(i:c.l=a.l)(y:0<a.l):∃e g,G1 2 b [h,f]=A (.n a.l,g)/\¬AE h e/\AF g h M.c 2 c/\(∀d,d≠e->g.N d=b.N d)/\∀d,Lv g d=Lv b d:=by
 rcases w with⟨_,rfl⟩|⟨e,k,rfl,z,s,E⟩;.grind
 .refine⟨e,b.set e (.I (a.l*2) (c.f M.c)),?_,λu=>u 0 a.l k 2 B,.j ⟨e,k,by grind,by grind,by rw[AY,Af B,i],by grind⟩,λd t=>by rw[AY,Ad t],λd=>by grind⟩;have l:KP f=A a.l:=by rcases j with⟨rfl,rfl⟩|⟨_,_,rfl,_⟩<;>rw[<-i]<;>rfl
  have n:¬a.l=0:=by omega
  have m:HO b 2 a.l f=A (c.f M.c):=by
   rcases j with⟨rfl,rfl⟩|⟨q,x,rfl,_,v,_⟩;.grind
   .show An _ _ _=_;rw[Air (by omega),G0 n];show b.AU q 0 (a.l*2)=_;rw[EA v,Af (by omega),Af (by grind)]
  have p:Ct (c.f M.c)=L:=by
   clear m j l i
   induction c with
   |nil=>rfl
   |cons N J o=>rw[EC]at o⊢;rw[AiV,Ajm,o];rfl
  show(match KP _,KP f with|some H,A I=>(match HO b 2 _ f with|some _=>An _ _ _|none=>O)|_,_=>O)=_;rw[l];show(match HO b 2 _ f with|some _=>An _ _ _|none=>O)=_;rw[Nat.min_self,m];show An _ _ _=_;rw[p];show An _ (An (Bb a.l 0) (A (F.n 0,b)) (match b.EY e 0 (a.l*2) (c.f M.c)with|some r=>A (F.n (Int.ofNat a.l),r)|none=>O)) O=_;rw[G0 n,L8 (by rw[s];rfl),Af (by omega),Af B];rfl
def Dt.Aef{q:Aa->Bz}{l:G}{n:D}{m:Aa}{j:AP}{p v r t:F}{u s:D->F}(a:Dt q l n m j p v r t u s){w:F}{o:C M}(Q:AF l w M.c 2 o)(E:o.l=j.Ap.l)(z:0<j.Ap.l):∃k,G1 2 l [p,w]=A (.n j.Ap.l,k)/\Dt q k n m {j with Ap:=o} p v r t u s/\Fb q l k (.Ap n):=by
 let⟨x,k,y,I,J,P,H⟩:=qW a.Ap Q E z
 have R:=a.FS x I;have f:=SJ R P H;refine⟨k,y,?_,f⟩;exact{
  N:=(f m a.lv (by rw[a.Ci];intro c;cases c)).1.t a.N
  lv:=(f m a.lv (by rw[a.Ci];intro c;cases c)).2
  Ci:=a.Ci
  Ap:=J
  FS:=a.FS
  AB:=a.AB.Av λb d e=>f b d (by rw[a.JX b e];intro c;cases c)
  JX:=a.JX
  Aw:=λh i g=>⟨(a.Aw h i g).1.Av λb d e=>f b d (by rw[(a.Aw h i g).2 b e];intro c;cases c),(a.Aw h i g).2⟩
  AI:=a.AI.Av λb d e=>f b d (by rw[a.FR b e];intro c;cases c)
  FR:=a.FR
  A5:=a.A5.Av λb d e=>f b d (by rw[a.JW b e];intro c;cases c)
  JW:=a.JW
  BS:=λh i g=>⟨(a.BS h i g).1.Av λb d e=>f b d (by rw[(a.BS h i g).2 b e];intro c;cases c),(a.BS h i g).2⟩}
def Zi(a:C Ab):Ab:=(a[(CO a G4).n]?).g fR
def FY(b:C Ab)(a:AS):Ah:=⟨[{Dl b (Zi b) (CO b G4) (-1) (-1) 0 with Ap:=Di::(B1 a.l a.BO).2.1}],(B1 a.l a.BO).1,0,0⟩
def VI:Ah:=⟨[],[],0,0⟩
def HH(b:C Ab)(c d:D)(a:AS):Aj (Ah×K):=
 if DR b≠0 then A (VI,DR b)
 else if I2 (Il b) a≠0 then A (VI,I2 (Il b) a)
 else if(B1 a.l a.BO).2.2≠0 then A (VI,(B1 a.l a.BO).2.2)
 else Hf b c d (FY b a)
def TF{a:K}{b:AS}(c:I2 a b=0):b.l.l=a/\b.BO.l=a/\a<=3/\∀d∈b.l,d.l<=40:=by unfold I2 at c;grind
def a3{a:AS}(e:a.l.l=a.BO.l)(b:(B1 a.l a.BO).2.2=0):(B1 a.l a.BO).2.1.l=a.l.l:=by
 unfold B1 at b⊢;rw[Ad (by omega)]at b⊢;split at b;.grind
 .rename_i c;rw[Ad c];split at b;.grind
  .rename_i d;rw[Ad d];have:=(Vs (b:=a.l) (c:=a.BO) (a:=a.l.l) Om e).2;rw[AiX (by grind)]at this;grind
def ai{a:C Ab}(i:Bj a){c:AS}(n:I2 (Il a) c=0)(o:(B1 c.l c.BO).2.2=0):∃(g:D)(d:Ab),CO a G4=g/\a[g]? =A d/\Zi a=d/\Il a=d.Ap-1/\Dk a (FY a c)/\DU a g d {Dl a d g (-1) (-1) 0 with Ap:=Di::(B1 c.l c.BO).2.1}:=by
 let⟨g,d,j,k,v⟩:=i.DL
 have l:Zi a=d:=by unfold Zi;grind
 have p:Il a=d.Ap-1:=by unfold Il;grind
 let⟨r,s,t,u⟩:=TF n
 have q:=a3 (a:=c) (by omega) o;have m:=Wy i k (-1) (-1) 0 (Di::(B1 c.l c.BO).2.1) (by grind);refine⟨g,d,j,k,l,p,?_,m⟩;have h:∀{e:D}{f:AP},(FY a c).T[e]? =A f->e=0/\f={Dl a d g (-1) (-1) 0 with Ap:=Di::(B1 c.l c.BO).2.1}:=λ{e}{f} b=>by
  unfold FY at b
  rw[l,j]at b
  cases e with
  |zero=>grind
  |succ e=>cases b
 exact{
  AX:=by show 1<=400;omega
  Bw:=λe f b=>by grind
  up:=λe f b=>by obtain⟨_,rfl⟩:=h b;exact .i B
  next:=λe f b=>by obtain⟨_,rfl⟩:=h b;exact .i B
  As:=λe f b=>by obtain⟨rfl,rfl⟩:=h b;exact⟨AjN 0,AjN 0⟩
  DL:=λe f b _=>(h b).1}
open Classical in
def ri{g:C Ab}(Y:Bj g){xG xH:D}(x4:xG=400){b:AS}(xn:I2 (Il g) b=0)(xD:(B1 b.l b.BO).2.2=0){xc:Ah×K}(x8:Hf g xG xH (FY g b)=A xc){k:G}{d j:Aa}{l xa:F}{I U:D->F}{r:C BL}{R:D}(xj:k.N d=A (.I 6 [Z Ab.c g,.m j,.sn,l,.n 0,.n 0]))(xo:Lv k d)(xy:k.N j=A (.Bu r R))(xF:Lv k j)(xR:Hq r (LX g g.l))(xO:Dn k l I U (B1 b.l b.BO).1)(yj:AF k xa M.c 2 (B1 b.l b.BO).2.1)(yK:d≠j)(yg:∀a,Ck l I U (B1 b.l b.BO).1.l a->a≠d/\a≠j/\AE xa a)(yO:∀a,¬AE xa a->a≠d/\a≠j){X:Aa->Prop}(yF:∀a,X a->Lv k a/\a≠d/\a≠j/\¬Ck l I U (B1 b.l b.BO).1.l a):∃xl,jj W9 34 1 [xa,.p d 0] k=A (.AC [.p d 0,.n xc.2],xl)/\BD X k xl/\D9 ⟨g,r,R,d⟩ xl xc.1 X:=by
 let⟨y,E,xz,xm,x5,yI,xQ,yq⟩:=ai Y xn xD
 let⟨yx,yy,yz,yA⟩:=TF xn
 have yu:=a3 (a:=b) (by omega) xD;have yv:=(Y.A4 y E xm).Ap;have xX:Ql k (.m j)=A r:=by show(match Ir (k.N j)with|some (r,_)=>A r|none=>O)=_;rw[xy];rfl
 have yc:E7 Ac [2] (.n 0) Ac k [.m j,.s [109,97,105,110]]=A (.n y):=by have:=Yj (d:=Ac) (e:=.n 0) xX xR G4;rw[kj Y xz]at this;exact this
 let⟨s,J,xd,xp,yk,xY,x1,yi,x0,x9,xI,xP,xt⟩:=iL xm (aW Y xm) (-1) (-1) 0 xj xo 0
 have xw:CB 1 1 J.next [.p s 0]=A (.I 1 [.p s 0],.Z J.next 0 1 2 1):=W6 J.next B;let⟨e,V,x2,yG,xK,xi,yM,yN⟩:=box J (.I 1 [.p s 0])
 rw[x2]at xw;have xh:=G9 (d:=2) (a:=.Z e 0 1 2 1) ((xK.N (xt.lv xo)).t ((xt.N xo).t xj)) (by omega) (by omega) B B;have xW:DJ 2 [.Z e 0 1 2 1] [Z Ab.c g,.m j,.sn,l,.n 0,.n 0]=[Z Ab.c g,.m j,.Z e 0 1 2 1,l,.n 0,.n 0]:=B;rw[xW]at xh;have xb:∀a,a≠d->(V.set d (.I 6 [Z Ab.c g,.m j,.Z e 0 1 2 1,l,.n 0,.n 0])).N a=V.N a:=λa n=>by rw[AY,Ad n]
 have xk:(V.set d (.I 6 [Z Ab.c g,.m j,.Z e 0 1 2 1,l,.n 0,.n 0])).N d=A (.I 6 [Z Ab.c g,.m j,.Z e 0 1 2 1,l,.n 0,.n 0]):=by rw[AY,Af B]
 have ye:∀a,Lv (V.set d (.I 6 [Z Ab.c g,.m j,.Z e 0 1 2 1,l,.n 0,.n 0])) a=Lv V a:=by grind
 generalize V.set d (.I 6 [Z Ab.c g,.m j,.Z e 0 1 2 1,l,.n 0,.n 0])=m at xh xb xk ye;have xf:∀a,Lv k a->a≠d->m.N a=k.N a/\Lv m a:=by grind
 have yB:¬Lv k e:=by grind
 have xg:e≠d:=by grind
 obtain⟨q,yn,ym,yQ,yl,yR,yP⟩:∃q:Aa->Bz,q d=.E2/\q j=.Bu/\q e=.T/\(∀a,Ck l I U (B1 b.l b.BO).1.l a->q a=.Ae)/\(∀a,Lv J a->¬Lv k a->q a=xd a)/\∀a,Lv k a->a≠d->a≠j->¬Ck l I U (B1 b.l b.BO).1.l a->q a=.DK:=by
  refine⟨λa=>if a=d then .E2 else if a=j then .Bu else if a=e then .T else if Ck l I U (B1 b.l b.BO).1.l a then .Ae else xd a,P,P,P,λa n=> ?_,λa n x6=> ?_,λa n yC yD yE=> ?_⟩;.grind
  .grind
  .grind
 have xr:=xI.Av (u:=q) (k:=m) (λa n xE=>by
  have x6:¬Lv k a:=λR=>by rw[xP a R]at xE;exact xE
  grind:∀a,Lv J a->(xd a).of 0->m.N a=J.N a/\Lv m a/\q a=xd a)
 have xV:BE [(.i .u8 0),(.n 0)] [(0,1)] [(.i .u8 3)]=A (.S (M.c Di)):=B;have xx:CB 1 2 m.next [.S (M.c Di)]=A (.I 2 (M.c Di),.Z m.next 0 1 2 2):=W6 (w:=2) m.next B;let⟨xq,xA,x7,yH,xL,xZ,yb,yf⟩:=box m (.I 2 (M.c Di))
 rw[x7]at xx;let⟨yo,W,xT,yh,yp,yt⟩:=k5 (d:=M.c) (b:=2) (l:=16) (λ_=>B) (λ_=>B) (.j ⟨xq,2,B,.j B,xZ,yb⟩:AF xA (.Z xq 0 1 2 2) M.c 2 [Di]) (yj.Av λa n xH=>by grind:AF xA xa M.c 2 (B1 b.l b.BO).2.1) (EI (by grind))
 have xe:AR m W:=λa n=>by have:=yp a (xL.lv n) (Fe λxS=>yf (by grind):AE (.Z xq 0 1 2 2) a);grind
 have xs:=xr.ext xe;have xv:=({
  N:=xk
  lv:=by grind
  Ci:=yn
  Bu:=(xf j xF P).1.t xy
  Hj:=(xf j xF P).2
  Gw:=ym
  T:=.j ⟨e,2,B,P,(xb e xg).t xi,by grind⟩
  IS:=λa n=>by have:a=e:=Aih λxS=>n (Fe P);grind
  Ae:=xO.Av λa n x3=>xf a n (yg a x3).1
  IT:=yl
  Bw:=λyL yw xn=>by grind}:EU q m g r R d ⟨[Dl g E y (-1) (-1) 0],(B1 b.l b.BO).1,0,0⟩ ⟨j,.Z e 0 1 2 1,l,I,U,λ_=>s,λ_=>xp,λ_=>yk,λ_=>xY,λ_=>x1,λ_=>yi,λ_=>x0⟩).ext xe
 have yd:An (BV .Dg [.p s 4] W xp) (An (BV .Dg [.p e 0] W (.p s 0)) (An (BV .Dg [.p d 2] W (.Z e 0 1 2 1)) L Ac) Ac) Ac=L:=by rw[Lh (AJ xs.N 4),Lh (a:=W) (c:=e) (b:=0) (AJ ((xe.N (by grind)).t ((xb e xg).t xi)) 0),Lh (AJ xv.N 2)];rfl
 have yJ:(Dl g E y (-1) (-1) 0).Ap.l=E.Ap.n:=by show(Bv _ _).l=_;grind
 let⟨xB,xU,xJ,xu⟩:=xs.Aef (w:=yo) (o:=[Di]++(B1 b.l b.BO).2.1) yh (by grind) (by grind)
 have xM:∀a,X a->Lv W a/\q a=.DK:=by grind
 have yr:=xu.FQ (by grind) xM;let⟨xC,ya,xN,ys⟩:=co (b:=⟨g,r,R,d⟩) Y x4 (⟨_,q,_,by
  have:FY g b=Ah.AM ⟨[Dl g E y (-1) (-1) 0],(B1 b.l b.BO).1,0,0⟩ 0 {Dl g E y (-1) (-1) 0 with Ap:=[Di]++(B1 b.l b.BO).2.1}:=by unfold FY;rw[x5,xz];rfl
  rw[this];exact(xv.OD (i:=0) (c:=Dl g E y (-1) (-1) 0) B (t:=.Ap 0) B xu xJ),B,P⟩:D9 ⟨g,r,R,d⟩ xB (FY g b) X) xQ x8
 refine⟨xC,?_,P,xN⟩;rw[KM.2.2.2.2.1];simp only[↓Q,↓H (AJ xj 1:k.AA d 1=A (.m j)),↓H yc,↓H x9,↓H xw,↓H xh,↓H (AJ xk 2:m.AA d 2=A (.Z e 0 1 2 1)),↓H (B:AZ 1 [.Z e 0 1 2 1,.n 0]=A (.p e 0)),↓H (AJ ((xb e xg).t xi) 0:m.AA e 0=A (.p s 0)),↓H (AJ xr.N 4:m.AA s 4=A xp),↓H xV,↓H xx,↓H xT,↓Jz yd,↓H xU,↓H (ya:W9 (Ar 37) [.p d 0] xB=A (.n xc.2,xC)), *]
def fb(e:C Ab)(f:F)(d:G)(c:Ah)(b:Aa->Prop):Prop:=∃a:CW,a.l=e/\f=.p a.x 0/\Lx a/\D9 a d c b
def iC{a:C Ab}(xD:CA a){xj xR:D}(xE:xj=400)(c:AS)(xv:c.l.l<=2000000)(xw:El c.l<=100000000){z:Ah×K}(i:HH a xj xR c=A z)(k:G){n:Aa->Prop}(yd:∀h,n h->Lv k h):∃e u,W9 (Ar 34) [Z Ab.c a,.S (AS.c c)] k=A (.AC [e,.n z.2],u)/\BD n k u/\(∀h,n h->Lv u h)/\(z.2=0->fb a e u z.1 n):=by
 let⟨y,l,xH,xA,x3,N,yf,yg⟩:=box k (.I 2 (AS.c c))
 have x0:∀(f:F->G->R),bl (.p k.next 0) (k.V (.I (BK (F.I (.S (AS.c c)))) (F.I (.S (AS.c c))))) f=f (.p y 0) l:=Em k (.I 2 (AS.c c)) xH xA;have xU:l.AU y 0 2=A (AS.c c):=B2 N;have xp:l.AA y 0=A (Z CG c.l):=AJ N 0;have xq:l.AA y 1=A (Z Db c.BO):=AJ N 1;have o:=uK a xD;unfold HH at i;by_cases q:DR a=0
 .rw[Ad (by grind)]at i;rw[Af q,q]at o;have t:=uL (Il a) c (by omega);by_cases M:I2 (Il a) c=0
  .rw[Ad (by grind)]at i;rw[M]at t;let⟨xJ,xK⟩:=uM c.l c.BO xv xw l
   by_cases r:(B1 c.l c.BO).2.2=0
   .rw[Ad (by grind)]at i;let⟨e,xZ,x8,yn,b,xi,I,xS,xk,ya,yb⟩:=xK r
    have J:=GU q;let⟨x,xf,V,U,E,S,xN,X⟩:=box b (.I 1 [.sn])
    have x1:∀(f:F->G->R),bl (.p b.next 0) (b.V (.I 1 [.sn])) f=f (.p x 0) xf:=Em b (.I 1 [.sn]) V U;let⟨g,xX,xV,s⟩:=Q_ S (CS I.o).2
    have Y:AR b g:=by rw[s];exact E.G7 X _
    let⟨d,p,xF,xB,xa,yc,xO,yh⟩:=box g (.Bu [] 0)
    have yo:∀(f:F->G->R),bl (.m g.next) (g.V (.Bu [] 0)) f=f (.m d) p:=λf=>by rw[<-xF,<-xB];rfl
    have xP:Lv g x:=by grind
    have yl:p.AU x 0 1=A [e]:=B2 ((xa.N xP).t (by rw[s,AY,Af B]));have x9:BE [.sn,.mn,.sn,.sn,(.n 0),(.n 0)] [(0,1),(1,1),(3,1)] [Z Ab.c a,.m d,.S [e]]=A (.S [Z Ab.c a,.m d,.sn,e,.n 0,.n 0]):=by rcases I.o with⟨rfl,_⟩|⟨_,_,rfl,_⟩<;>rfl
    let⟨j,T,xG,xC,xl,xe,W,yi⟩:=box p (.I 6 [Z Ab.c a,.m d,.sn,e,.n 0,.n 0])
    have yp:∀(f:F->G->R),bl (.p p.next 0) (p.V (.I (BK (F.I (.S [Z Ab.c a,.m d,.sn,e,.n 0,.n 0]))) (F.I (.S [Z Ab.c a,.m d,.sn,e,.n 0,.n 0])))) f=f (.p j 0) T:=Em p (.I 6 [Z Ab.c a,.m d,.sn,e,.n 0,.n 0]) xG xC;have w:j≠d:=by grind
    let⟨m,xs,xI,xL,xt,xc,xd⟩:=AaK J xe W P P w xZ
    have x4:AR b T:=Y.AQ (xa.AQ xl);have yj:¬Lv b d:=by grind
    have yk:¬Lv b j:=by grind
    have x5:∀h,Lv b h->m.N h=b.N h/\Lv m h:=by grind
    have xm:=I.Av (j:=m) P;have xT:=xS.Av (c:=m) P;have xu:=(xd j W w).1.t xe;have xQ:Lv m d:=by
     by_cases xz:Lv m d;.grind
     .exfalso;have:m.next.num<=d.num:=Nat.le_of_not_lt xz;have xx:=(xd j W w).2;unfold Lv at xx;have ye:d.num<j.num:=by have:=xO;unfold Lv at this;grind
      omega
    let⟨xg,xM,x6,xb⟩:=ri J xE M r i xu P xt xQ xc xm xT w
     P
     P (X:=n)
     (λh xh=>by grind)
    have xn:Lx ⟨a,xs,xI,j⟩:=⟨LX a a.l,xc,λym x7 xy=>kj J xy⟩;have xo:BD n k xg:=by grind
    refine⟨.p j 0,xg,Bd B B ?_,xo,λh xh=>xb.Dy xh,λ_=>⟨_,B,B,xn,xb⟩⟩;have xY:A1 1 (b.V (.I 1 [.sn])) [.p b.next 0,.S [e]]=A (Ax,g):=by grind
    have xW:(g.V (.Bu [] 0)).AU b.next 0 1=A [e]:=by grind
    have xr:BE [.sn,.mn,.sn,.sn,(.n 0),(.n 0)] [(0,1),(1,1),(3,1)] [Z Ab.c a,.m g.next,.S [e]]=A (.S [Z Ab.c a,.m d,.sn,e,.n 0,.n 0]):=by grind
    have x2:∀(f:F->G->R),bl (.p (g.V (.Bu [] 0)).next 0) ((g.V (.Bu [] 0)).V (.I (BK (F.I (.S [Z Ab.c a,.m d,.sn,e,.n 0,.n 0]))) (F.I (.S [Z Ab.c a,.m d,.sn,e,.n 0,.n 0])))) f=f (.p j 0) T:=by grind
    rw[KM.1];simp only[↓x0,↓x2,↓Q,↓QT,↓o.H B,↓H xU,↓t.H B,KM.2.1,KM.2.2.1,↓H xp,↓H xq,↓H xi,↓H xY,KM.2.2.2.1,↓H xW,↓H xr,xL,xM]
   .rw[Af r]at i;cases i
    let⟨b,xi,xk⟩:=xJ r
    let⟨x,xf,V,U,E,S,xN,X⟩:=box b (.I 1 [.sn])
    have x1:=Em b (.I 1 [.sn]) V U;let⟨g,xX,xV,s⟩:=Q_ S (b:=.sn) B
    have Y:AR b g:=by rw[s];exact E.G7 X _
    refine⟨.pn,g,Bd B B ?_,P,P,Om⟩;rw[KM.1];simp only[QY,o.H B,t.H B,KM.2.1,KM.2.2.1, *]
  .rw[Af M]at i;cases i
   refine⟨.pn,l,Bd B B ?_,P,P,Om⟩;rw[KM.1];simp only[QY,o.H B,t.H B,KM.2.1, *]
 .rw[Af q]at i;cases i
  rw[Ad q]at o;refine⟨.pn,l,Bd B B ?_,P,P,Om⟩;rw[KM.1];simp only[QY,o.H B,KM.2.1, *]
def F7(b:C Ab)(c d e:D)(f:AS):Aj (Ah×K):=match HH b c d f with
 |some a=>if a.2≠0 then A a else Iy b c d e a.1
 |none=>O
def ck{f:C Ab}(N:CA f){o R:D}(t:h=400)(d:AS)(H:d.l.l<=2000000)(I:El d.l<=100000000){r:Ah->Prop}(x:∀b:CW,b.l=f->Lx b->P4 b h r)(v:∀a,HH f h o d=A a->a.2=0->r a.1){a:Ah×K}(e:F7 f h o R d=A a)(j:G){g:Aa->Prop}(xb:∀c,g c->Lv j c):∃p k,W9 (Ar 28) [Z Ab.c f,.S (AS.c d)] j=A (.AC [p,.n a.2],k)/\BD g j k/\(a.2≠0->∀c,g c->Lv k c)/\(a.2=0->fb f p k a.1 g):=by
 let⟨xg,E,xd,xc,U,xa,xe,xf⟩:=box j (.I 2 (AS.c d))
 unfold F7 at e
 cases l:HH f h o d with
 |none=>grind
 |some c=>
  rw[l]at e;simp only[]at e;let⟨p,J,S,W,V,w⟩:=iC N t d H I l E (n:=g) P
  by_cases i:c.2=0
  .rw[Ad (by grind)]at e;obtain⟨b,M,rfl,m,u⟩:=w i;subst M;have y:DR b.l=0:=by
    unfold HH at l;by_cases Y:DR b.l=0;.grind
    .grind
   let⟨s,T,q,X⟩:=uv (GU y) m t (x b B m) (v c l i) u e
   rw[i]at S;by_cases n:a.2=0;.rw[n]at T;refine⟨.p b.x 0,s,Bd B B ?_,P,λz=>A_ n z,λ_=>⟨b,B,B,m,q⟩⟩;rw[So.1,n];simp only[QY,So.2.1,So.2.2, *]
   .refine⟨.pn,s,Bd B B ?_,P,λ_ c Q=>q.Dy Q,Om⟩;rw[So.1];simp only[QY,So.2.1, *]
  .rw[Af i]at e;cases e
   refine⟨.pn,J,Bd B B ?_,P,P,Om⟩;rw[So.1];simp only[QY,So.2.1, *]
end Go.Proofs.YtmnfpdedgnfeiaaGreat
namespace Go.Proofs.YtmnfpdedgnfeiaaGreat
open Go.Fg Go.Sort
def Ro{f:Type}(c:G)(d:F)(h:f->C F)(e:D)(a:C f):Prop:=(d=.sn/\a=[])\/∃b g,d=.Z b 0 a.l g e/\Eg (c.N b)=A (a.l*e,a.f h)/\Lv c b
variable{d:F}
def AF.ro{m:Type}{b:G}{a:m->C _}{e:D}{c:C _}(l:AF b d a e c):Ro b d a e c:=by
 rcases l with k|⟨f,g,h,_,i,j⟩;.exact .i k
 .exact .j ⟨f,g,h,by rw[i];rfl,j⟩
variable{f:F}
def Ro.Av{l:Type}{c d:G}{i:l->C F}{g:D}{e:C l}(q:Ro c f i g e)(p:∀b k a,Lv c b->¬AE f b->Eg (c.N b)=A (k,a)->Eg (d.N b)=A (k,a)/\Lv d b):Ro d f i g e:=by
 rcases q with r|⟨h,a,j,n,o⟩;.exact .i r
 .have:=p h _ _ o (λm=>m 0 e.l a g j) n;exact .j ⟨h,a,j,P,P⟩
variable{e:G}
def Ro.fs{r:Type}{h:Aa->Prop}{a:r->C _}{g:D}{b:C _}(q:Ro e f a g b)(j:∀l,¬AE f l->h l)(k:∀c,(a c).l=g)(s:∀c,(a c).all Im=L):Fs h 2 e f (YtmnfpdedgnfeiaaGreat.Z a b):=by
 rcases q with⟨rfl,rfl⟩|⟨m,n,rfl,i,_⟩;.exact(Fs.sn e).up (by omega)
 .refine Fs.Na (k:=1) (j m (λp=>p 0 b.l n g B)) k k i ?_
  clear i j
  induction b with
  |nil=>exact .nil
  |cons c t o=>exact .cons (B6.Nu P) o
def Ro.ot{g:Type}{c:G}{a:F}{b:g->C _}{f:D}{d:C _}(e:Ro c a b f d):FX a=L:=by rcases e with⟨rfl,_⟩|⟨h,i,rfl,_⟩<;>rfl
abbrev WE:=F×Cc
instance:Inhabited WE:=⟨(.sn,⟨[],0⟩)⟩
def FV(a:WE):C F:=[a.1,.n a.2.Ao]
def B4(a b:WE):Ak:=Au (GL a.2 b.2<0)
structure SI(c:C WE)(g:G)(e:F)(d:G)(f:Br WE):Prop where
 CC:AF d e FV 2 f.l
 sub:∀a∈f.l,a∈c
 ro:∀a∈c,Ro d a.1 Bc.c 2 a.2.ES
 AX:∀a∈c,a.2.ES.l<1000000000
 I6:∀a∈c,∀b,¬AE a.1 b->AE e b
 fr:∀b,Lv g b->((AE e b/\∀a∈c,AE a.1 b)->d.N b=g.N b)/\Lv d b
variable{b:D}
def Vk{a:Br WE}(c:b<a.z):a.l[b]? =A a[b]! :=by grind
def XO{a:Br WE}(c:b<a.z):a[b]!∈a.l:=Ail (Vk c)
variable{c:D}
def mH{a:Br WE}:(swp a b c).l=(a.l.set b a[c]!).set c a[b]! :=by unfold swp;grind
def ub:F->Aa
 | .Z a _ _ _ _=>a
 |_=>.h
def eT{c:F}{a:Aa}(e:¬AE c a):ub c=a:=by refine Aih λb=>e ?_;intro h g f i d;rw[d]at b;exact b B
variable{a:D}{i:G}
def SI.rd{g:C _}{b:F}{d:Br WE}(h:SI g i b e d)(j:a<d.z):AZ 2 [b,.n a]=A (.p (ub b) (a*2))/\e.AU (ub b) (a*2) 2=A (FV d[a]!):=by
 let⟨k,c⟩:=Dm (f:=FV) (w:=2) (λ_=>B) h.CC (Vk j)
 rw[eT c.nb];exact⟨c.ia,c.AU (f:=FV) (λ_=>B) P⟩
def SI.ft{d:C _}{f:G}{h:F}{c:Br _}(b:SI d f h e c){a:WE}(g:a∈c.l):Ct (FV a)=L:=by unfold FV;rw[EC];simp[(b.ro a (b.sub a g)).ot]
def SI.Lo{n:C WE}{q:G}{e:F}{a:Br WE}(b:SI n q e i a){d:D}(m:d<a.z)(t:c<a.z):
  ∃r s,AZ 2 [e,.n d]=A (.p (ub e) (d*2))/\AZ 2 [e,.n c]=A (.p (ub e) (c*2))/\i.AU (ub e) (d*2) 2=A (FV a[d]!)/\i.AU (ub e) (c*2) 2=A (FV a[c]!)/\
   A1 2 i [.p (ub e) (d*2),.S (FV a[c]!)]=A (Ax,r)/\A1 2 r [.p (ub e) (c*2),.S (FV a[d]!)]=A (Ax,s)/\SI n q e s (swp a d c):=by
 let⟨U,h⟩:=Dm (f:=FV) (w:=2) (λ_=>B) b.CC (Vk m)
 let⟨I,l⟩:=Dm (f:=FV) (w:=2) (λ_=>B) b.CC (Vk t)
 have Q:=h.only I l.nb
 subst Q
 let⟨M,E⟩:=h.set (f:=FV) (w:=2) (λ_=>B) b.CC P (c:=a[c]!) (g:=.S (FV a[c]!)) B (b.ft (XO t))
 have T:c<(a.l.set d a[c]!).l:=by grind
 let⟨xa,x⟩:=Bo T
 let⟨p,o⟩:=Dm (f:=FV) (w:=2) (λ_=>B) E x
 have R:=h.only p o.nb
 subst R
 let⟨N,Z⟩:=o.set (f:=FV) (w:=2) (λ_=>B) E x (c:=a[d]!) (g:=.S (FV a[d]!)) B (b.ft (XO m))
 have H:=h.nb
 rw[eT H]
 refine⟨_,_,h.ia,l.ia,h.AU (f:=FV) (λ_=>B) (Vk m),l.AU (f:=FV) (λ_=>B) P,M,N,?_⟩
 exact{
  CC:=by rw[mH];grind
  sub:=λk g=>by
   rw[mH]at g;rcases Akc g with g|rfl
   .rcases Akc g with g|rfl;.exact b.sub k g
    .exact b.sub _ P
   .exact b.sub _ P
  ro:=λk g=>(b.ro k g).Av λj Y V v S W=>by have u:j≠p:=λJ=>H (by rw[<-J];exact b.I6 k g j S);exact⟨by rw[AY,Ad u,AY,Ad u];grind,by grind⟩
  AX:=b.AX
  I6:=b.I6
  fr:=λj v=>by have:=b.fr j v;refine⟨λX=> ?_,by grind⟩;rw[AY,Ad P,AY,Ad P];grind}
def SI.N0{n:C WE}{s:G}{q:F}{a:Br WE}(d:SI n s q e a){k l:D}(y:k<a.z)(z:l<a.z):∃j,Du W9 (.f (Ar 42) []) [.S (FV a[k]!),.S (FV a[l]!)] e=A (.n (GL a[k]!.2 a[l]!.2),j)/\SI n s q j a:=by
 have p:=d.sub _ (XO y);have u:=d.sub _ (XO z);have r:∀g∈n,(∀b,¬AE g.1 b->(¬AE a[k]!.1 b\/¬AE a[l]!.1 b))->Fs (λb=>¬AE a[k]!.1 b\/¬AE a[l]!.1 b) 3 e (.S (FV g)) (.S (Cc.c g.2)):=λg o E=>
  Fs.S (B6.cons ((d.ro g o).fs E (λ_=>B) (λ_=>B)) (B6.cons ((Fs.im (c:=e) (a:=.n g.2.Ao) B).up (by omega)) (B6.nil 2 e)))
 let⟨j,w,i⟩:=B6.F9 (B6.cons (r _ p λb h=>.i h) (B6.cons (r _ u λb h=>.j h) (B6.nil 3 e))) (by omega)
 refine⟨j,iF a[k]!.2 a[l]!.2 (d.AX _ p) e _ j w,?_⟩;have M:∀f,¬AE q f->j.N f=e.N f:=λf h=>i.o f (by
  rintro(m|m)
  .exact h (d.I6 _ p f m)
  .exact h (d.I6 _ u f m))
 exact{
  CC:=d.CC.Av λf J h=>⟨P,by rw[i.l];grind⟩
  sub:=d.sub
  ro:=λg o=>(d.ro g o).Av λb I v t _ x=>⟨i.p.1 b I v x,by rw[i.l];grind⟩
  AX:=d.AX
  I6:=d.I6
  fr:=λb t=>by have:=d.fr b t;refine⟨λm=> ?_,by rw[i.l];grind⟩;rw[i.o b (by grind)];grind}
theorem Jf(a b:WE):B4 a b=Au (GL a.2 b.2<0):=rfl
def er(h:Nat.testBit a c=L){e:Rd}{g:C F}{b:G}{d:F×G}:An (CY a b (CT (AO L (.b L)) ⟨c,e,g,f⟩ [])) (A d) O=A d:=by show An (An (An (Nat.testBit a c) L (BV e g b f)) (CY a b []) Ac) _ _=_;rw[h];rfl
def Z7{c:Rd}{e:C F}{b:G}{a:F×G}:An (CY 16383 b (CT (AO L (.b L)) ⟨8,c,e,d⟩ [])) (A a) O=A a:=er (by grind)
def Z8{c:Rd}{e:C F}{b:G}{a:F×G}:An (CY 8191 b (CT (AO L (.b L)) ⟨8,c,e,d⟩ [])) (A a) O=A a:=er (by grind)
def l5{c:Rd}{e:C F}{b:G}{a:F×G}:An (CY 524287 b (CT (AO L (.b L)) ⟨11,c,e,d⟩ [])) (A a) O=A a:=er (by grind)
def bk(b:a<1000000000):A7 .sub [.n (a+1:D),.n 1]=A (.n a):=by rw[Gu (by omega) (by omega)];grind
def KG(b:a<1000000000)(c:0<a):A7 .sub [.n a,.n 1]=A (.n (a-1:D)):=by rw[Gu (by omega) (by omega)];grind
def Ng(c:a+b<1000000000):A7 .add [.n a,.n b]=A (.n (a+b:D)):=by rw[GJ (by omega) (by omega)];grind
def Nc(c:b<=a)(d:a<1000000000):A7 .sub [.n a,.n b]=A (.n (a-b:D)):=by rw[Gu (by omega) (by omega)];grind
def WX(c:a<1000000000)(d:b≠0):A7 .quo [.n a,.n b]=A (.n (a/b:D)):=by rw[ZQ _ _ (by unfold DO;omega) (by omega),AkD (by omega)];grind
def ex(c:D):∀(b:D)(a:Br _),(insInner B4 c b a).z=a.z
 |0,a=>rfl
 |b+1,a=>by
  unfold insInner;split;.rw[ex c b,size_swp]
  omega
def jk{n:C _}{q:G}{h:F}(m c:D)(k:F):∀(a:D){d:G}{b:Br _},SI n q h d b->a<b.z->b.z<1000000000->∃p,jj W9 191 3 [.n a,.n m,k,.n c,.f (Ar 42) [],h] d=jj W9 191 2 [.n m,k,.n c,.f (Ar 42) [],h] p/\SI n q h p (insInner B4 c a b)
 |0,d,b,e,g,v=>by
  have l:¬c<((0:D):K):=by omega
  refine⟨d,?_,e⟩;rw[NE.2.2.2.2.1];simp only[↓Q,↓QT,Aic,l]
 |a+1,d,b,e,g,v=>by
  by_cases l:c<a+1
  .have f:c<((a+1:D):K):=by omega
   let⟨E,_⟩:=e.rd g
   let⟨H,J⟩:=e.rd (a:=a) (by omega)
   let⟨t,I,r⟩:=e.N0 g (l:=a) (by omega)
   have y:=bk (a:=a) (by omega);by_cases o:GL b[a+1]!.2 b[a]!.2<0
   .let⟨z,_,_,_,_,_,_,_,s⟩:=r.Lo g (c:=a) (by omega)
    let⟨u,w,x⟩:=jk m c k a s (by rw[size_swp];omega) (by rw[size_swp];grind)
    refine⟨u,?_,?_⟩;.rw[NE.2.2.2.2.1];simp only[Q,QT,f,Z7,o,NE.2.2.2.2.2.1,NE.2.2.2.2.2.2,w,ZR, *]
    .have:insInner B4 c (a+1) b=insInner B4 c a (swp b (a+1) a):=by
      show(if _ then _ else _)=_
      rw[Af]
      rw[Aie,Ain]
      exact⟨l,by rw[Jf,Ain];grind⟩
     grind
   .refine⟨t,?_,?_⟩;.rw[NE.2.2.2.2.1];simp only[Q,QT,Aic,f,Z7,o,ZR, *]
    .have:insInner B4 c (a+1) b=b:=by
      show(if _ then _ else _)=_
      rw[Ad]
      rw[Aie,Jf,Ain]
      grind
     grind
  .have f:¬c<((a+1:D):K):=by omega
   refine⟨d,?_,?_⟩;.rw[NE.2.2.2.2.1];simp only[↓Q,↓QT,Aic,f]
   .have:insInner B4 c (a+1) b=b:=by
     show(if _ then _ else _)=_
     grind
    grind
def jm{h:C _}{m:G}{g:F}(e b:D):∀(f a:D){d:G}{c:Br WE},b-a=f->SI h m g d c->b<=c.z->c.z<1000000000->a<1000000000->∃l,jj W9 191 1 [.n b,.n e,.f (Ar 42) [],g,.n a] d=A (.AC [],l)/\SI h m g l (insOuter B4 e b a c)
 |0,a,d,c,s,j,q,n,r=>by
  have k:¬a<(b:K):=by omega
  refine⟨d,?_,?_⟩;.rw[NE.2.1];simp only[↓Q,↓QT,Aic,k]
  .rw[insOuter,Ad (by omega)];grind
 |f+1,a,d,c,s,j,q,n,r=>by
  have k:(a:K)<(b:K):=by omega
  let⟨u,v,o⟩:=jk a e (.n (b:K)) a j (by omega) n
  let⟨p,w,t⟩:=jm e b f (a+1) (by omega) o (by rw[ex];grind) (by rw[ex];grind) (by omega)
  refine⟨p,?_,?_⟩;.rw[NE.2.1];simp only[↓Q,↓QT,NE.2.2.1,NE.2.2.2.1,↓H (BF (a:=a) (by omega)), *]
  .rw[insOuter,Af (by omega)];grind
def tH{e:C _}{h f:G}{c:Br WE}(j:SI e h d f c)(o:a<=b)(m:b<=c.z)(p:c.z<100000000):∃g,W9 (Ar 191) [d,.n a,.n b,.f (Ar 42) []] f=A (.AC [],g)/\SI e h d g (insertionSort B4 c a b):=by
 let⟨l,n,k⟩:=jm a b (b-(a+1)) (a+1) B j m (by omega) (by omega)
 refine⟨l,Bd B B ?_,k⟩;rw[NE.1];simp only[↓H (BF (a:=a) (by omega)),n]
def Aa6(b:a<400000000):A7 .mul [.n 2,.n a]=A (.n (2*a:D)):=by rw[Ww 2 _ (by unfold DO;omega) (by unfold DO;omega)];grind
def Xc(d e:D):∀(b c:D)(a:Br WE),d-c<=b->(siftDown B4 d e c a).z=a.z
 |0,c,a,f=>by rw[siftDown,dif_pos (by omega)]
 |b+1,c,a,f=>by
  rw[siftDown];split;.rfl
  .split
   .split;.rfl
    .split;.rw[Xc _ _ b _ _ (by omega),size_swp]
     omega
   .split;.rfl
    .rw[Xc _ _ b _ _ (by omega),size_swp]
def ml{p:C WE}{u:G}{l:F}(g d:D):∀(o c:D){t:G}{f:Br WE},g-c<=o->SI p u l t f->d+g<=f.z->f.z<100000000->c<100000000->∃m,jj W9 233 1 [.n g,.f (Ar 42) [],l,.n d,.n c] t=A (.AC [],m)/\SI p u l m (siftDown B4 g d c f)
 |o,c,t,f,xk,q,xh,xm,xl=>by
  have xn:=Aa6 (a:=c) (by omega);have V:=BF (a:=2*c) (by omega);by_cases s:2*c+1>=g
  .have w:g<=((2*c+1:D):K):=by omega
   refine⟨t,?_,?_⟩;.rw[NF.2.1];simp only[QY, *]
   .rw[siftDown,dif_pos s];grind
  .cases o with
   |zero=>omega
   |succ o=>
   have w:¬g<=((2*c+1:D):K):=by omega
   have W:=BF (a:=2*c+1) (by omega)
   have E:∀(e:D){y:G},SI p u l y f->e<g->e>c->e<200000000->∃m,jj W9 233 3 [.n (c:K),.n (e:K),.n (g:K),.f (Ar 42) [],l,.n (d:K)] y=A (.AC [],m)/\SI p u l m (if !B4 f[d+c]! f[d+e]!then f else siftDown B4 g d e (swp f (d+c) (d+e))):=by
    intro e y v xg xi xj;have xf:=Ng (a:=d) (b:=c) (by omega);have xe:=Ng (a:=d) (b:=e) (by omega);let⟨P,xo⟩:=v.rd (a:=d+c) (by omega)
    let⟨R,T⟩:=v.rd (a:=d+e) (by omega)
    let⟨I,J,r⟩:=v.N0 (k:=d+c) (l:=d+e) (by omega) (by omega)
    rw[K8]at J;have xb:DW [.b L]=A (.b Ac):=B;have xa:DW [.b Ac]=A (.b L):=B;by_cases h:GL f[d+c]!.2 f[d+e]!.2<0
    .let⟨k,_,_,_,_,_,Y,Z,M⟩:=r.Lo (d:=d+c) (c:=d+e) (by omega) (by omega)
     let⟨N,S,U⟩:=ml g d o e (by omega) M (by rw[size_swp];grind) (by rw[size_swp];grind) (by omega)
     refine⟨N,?_,?_⟩;.rw[NF.2.2.2.1];simp only[QY,K8,h,NF.2.2.2.2,S, *]
     .rw[Jf,Be h,Ad (by grind)];grind
    .refine⟨I,?_,?_⟩;.rw[NF.2.2.2.1];simp only[QY,K8,h, *]
     .rw[Jf,Ba h,Af (by grind)];grind
   by_cases X:2*c+1+1<g
   .have x:((2*c+1+1:D):K)<(g:K):=by omega
    have xc:=Ng (a:=d) (b:=2*c+1) (by omega);have xd:=BF (a:=d+(2*c+1)) (by omega);let⟨P,_⟩:=q.rd (a:=d+(2*c+1)) (by omega)
    let⟨R,T⟩:=q.rd (a:=d+(2*c+1)+1) (by omega)
    let⟨I,J,r⟩:=q.N0 (k:=d+(2*c+1)) (l:=d+(2*c+1)+1) (by omega) (by omega)
    by_cases h:GL f[d+(2*c+1)]!.2 f[d+(2*c+1)+1]!.2<0
    .let⟨k,z,H⟩:=E (2*c+1+1) r (by omega) (by omega) (by omega)
     refine⟨k,?_,?_⟩;.rw[NF.2.1];simp only[Q,QT,Aic,w,NF.2.2.1,x,l5,h,z,ZR, *]
     .rw[siftDown,dif_neg s,Af (by rw[Aie,Ain,Jf,Ain];grind)];grind
    .let⟨k,z,H⟩:=E (2*c+1) r (by omega) (by omega) (by omega)
     refine⟨k,?_,?_⟩;.rw[NF.2.1];simp only[Q,QT,Aic,w,NF.2.2.1,x,l5,h,z,ZR, *]
     .rw[siftDown,dif_neg s,Ad (by rw[Aie,Ain,Jf,Ain];grind)];grind
   .have x:¬((2*c+1+1:D):K)<(g:K):=by omega
    let⟨k,_,H⟩:=E (2*c+1) q (by omega) (by omega) (by omega)
    refine⟨k,?_,?_⟩;.rw[NF.2.1];simp only[QY,NF.2.2.1, *]
    .rw[siftDown,dif_neg s,Ad (by grind)];grind
def ip{f:C WE}{g:G}{e:F}{c:Br WE}(j:SI f i e g c){d:D}(m:d+a<=c.z)(o:c.z<100000000)(n:b<100000000):∃h,W9 (Ar 233) [e,.n b,.n a,.n d,.f (Ar 42) []] g=A (.AC [],h)/\SI f i e h (siftDown B4 a d b c):=by
 let⟨l,p,k⟩:=ml a d (a-b) b Om j m o n
 refine⟨l,Bd B B ?_,k⟩;rw[NF.1];grind
