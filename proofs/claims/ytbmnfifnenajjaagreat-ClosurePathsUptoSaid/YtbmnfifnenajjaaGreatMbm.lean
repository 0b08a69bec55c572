/- Part of the proof. -/
import Derived.Test.YtbmnfifnenajjaaGreatMbl
set_option linter.all false
noncomputable section
open Option renaming some->A,bind->Option.b
open _root_ renaming rfl->B,List->C,Nat->D,Int->K,if_neg->Ad,if_pos->Af,Bool->Ah,decide_eq_false->A2,absurd->BF
open Bool renaming true->L,false->Aa
open Decidable renaming decide->Ao
open List renaming replicate->BG,length->List.l,map->List.m,take->List.t,drop->List.d,flatMap->List.f
open Nat renaming le_refl->CK
open Go.IntKind renaming i64->Go.IntKind.n
open Array renaming toList->Array.l
open Eq renaming trans->Eq.t,symm->Eq.s
open Or renaming inl->Or.i,inr->Or.j
open Int renaming toNat->Int.n
namespace Go.Proofs.YtbmnfifnenajjaaGreat
open Go.Fg
def EK{a:Type}(b:a->D)(c:C a):D:=(c.m b).sum
def TN{d:Type}(a:d->D)(c:d)(b:C _):EK a (c::b)=a c+EK a b:=by unfold EK;grind
def VY{g:Type}(c:g->D):∀{a:C _}{d:D}{e:g}(b:g),a[d]? =A e->EK c (a.set d b)+c e=EK c a+c b
 |[],d,e,b,f=>by grind
 |h::a,0,e,b,f=>by cases f;rw[Afs,TN,TN];omega
 |h::a,d+1,e,b,f=>by have:=VY c (a:=a) (d:=d) b (by simpa using f);rw[List.set_cons_succ,TN,TN];omega
def AaC{d:Type}(a:d->D)(b c:C _):EK a (b++c)=EK a b+EK a c:=by unfold EK;grind
def VX{i:Type}{b:i->D}{d:D}:∀{a:C _},(∀c∈a,b c<=d)->EK b a<=d*a.l
 |[],_=>AeA _
 |g::a,e=>by have j:=VX (b:=b) (a:=a) λc h=>e c (Aez _ h);have k:=e g P;rw[TN,Aec,Nat.mul_succ];omega
def Mp(a:N):D:=if a.Ak=0 then 1 else 0
def Lb(a:BA):D:=if a.is=L then 0 else 1
def Je(a:AK):D:=EK Mp a.An+EK (EK Lb) a.A4
def mu(b:D)(a:Ai):D:=EK Je a.Ac+b*(400-a.Ac.l)
def Dn(a b:D)(c:Ah):Prop:=b+(if c=L then 1 else 0)<=a
def Dn.refl(a:D):Dn a a Aa:=by unfold Dn;simp
variable{b:D}
def Dn.AI{a c:D}{d e:Ah}(f:Dn a b d)(g:Dn b c e):Dn a c (d||e):=by unfold Dn at*;grind
def Dn.kp{a c:D}{d e:Ah}(f:Dn a b d)(g:Dn b c e):Dn a c (e||d):=by rw[Bool.or_comm];exact f.AI g
def Dn.le{a:D}{d:Ah}(c:Dn a b d):b<=a:=by unfold Dn at c;omega
def Dn.uR{a:D}{d:Ah}(c:Dn a b d):Dn a b Aa:=by have:=c.le;unfold Dn;grind
def rj(a:AK)(c:D)(b:N)(e:c<a.An.l):Dn (Je a) (Je (FG a c b).1) (FG a c b).2:=by
 unfold FG;split;.exact Dn.refl _
 .rename_i g;let⟨d,f⟩:=Bb e
  have h:d.Ak=0:=P;have i:b.Ak≠0:=by grind
  have:=VY Mp b f;have j:Mp d=1:=by unfold Mp;grind
  have k:Mp b=0:=by unfold Mp;grind
  show EK Mp (a.An.set c b)+EK (EK Lb) a.A4+1<=EK Mp a.An+EK (EK Lb) a.A4;omega
def aq(d:AF->N)(c:C AF)(a:AK)(f:c.l<=a.An.l):∀b,Dn (Je a) (Je (Dc d c a b).1) (Dc d c a b).2
 |0=>Dn.refl _
 |b+1=>by
  have g:=aq d c a f b;have h:=(ME d c a b).1;unfold Dc;split;.rename_i i e;have:=(AdN.1 e).1;exact g.kp (rj _ b _ (by rw[h.An];omega))
  omega
variable{d:D}
def lB{a:AK}{c:D}{f:N}{b:BA}(n:b.is=L)(h:G6 a.A4 d c):Dn (Je a) (Je (CZ a d c f b).1) (CZ a d c f b).2.1:=by
 unfold CZ;split;.exact Dn.refl _
 .split;.exact Dn.refl _
  .rename_i q r;let⟨e,j,i⟩:=h
   let⟨g,k⟩:=Bb i
   have m:Ek a d c=g:=by unfold Ek;grind
   have o:Lb g=1:=by unfold Lb;grind
   have p:Lb b=0:=by unfold Lb;grind
   have l:CP a.A4 d c b=a.A4.set d (e.set c b):=by unfold CP;grind
   have s:=VY Lb b k;have t:=VY (EK Lb) (e.set c b) j;show EK Mp a.An+EK (EK Lb) (CP a.A4 d c b)+1<=EK Mp a.An+EK (EK Lb) a.A4;grind
def YQ{c:D->N}{e:D}{d:BA}{b:AK}(h:d.is=L){f:D}(g:∀i,i<f->G6 b.A4 e i):∀a,a<=f->Dn (Je b) (Je (Ce c e d b a).1) (Ce c e d b a).2.1
 |0,_=>Dn.refl _
 |a+1,m=>by
  have k:=YQ (c:=c) h g a (by omega);have l:=(Ub c e d b a).1;have j:=lB (f:=c a) h (Of l.A4 (g a (by omega)));unfold Ce;split;.grind
  .split;.grind
   .exact k.AI j
variable{a:Ai}
def VB{c:D}{b:AK}(f:c<a.Ac.l){e:Ah}(g:Dn (Je (a.at c)) (Je b) e):Dn (mu d a) (mu d (a.AJ c b)) e:=by have h:=VY Je b (Di f);unfold Dn mu at*;rw[Ej];have:EK _ (a.AJ c b).Ac=EK Je (a.Ac.set c b):=B;omega
def et{j:C Ab}(f:BD j){g:D}{c:Ab}{a:AK}(b:Dw j g c a):Je a<=4812:=by
 have e:=f.Bc g c b.hb;have q:EK Mp a.An<=1*a.An.l:=VX λp _=>by unfold Mp;grind
 have r:EK (EK Lb) a.A4<=12*a.A4.l:=VX λd o=>by
  let⟨h,m⟩:=Aff.1 o
  let⟨k,n⟩:=Bb (b:=c.Av) (a:=h) (by rw[<-b.A4];grind)
  have:=b.B1 h k d n m;have:=Rs f k;have:EK Lb d<=1*d.l:=VX λp _=>by unfold Lb;grind
  omega
 have:=b.An;have:=b.A4;have:=e.An;have:=e.Av;unfold Je;omega
def lm{d:C _}(k:BD d){j:D}(i:BY d a){c:D}(f:c<a.Ac.l)(q:(a.at c).AP≠-1):Dn (mu j a) (mu j (Cj d a c).1) (Cj d a c).2:=by
 let⟨E,r,m,u,b,h,_⟩:=i.up f q
 let⟨s,o,e⟩:=i.W.sh.BC c _ (Di f)
 let⟨t,g⟩:=b.GZ
 unfold Cj;simp only[];split;.exact Dn.refl _
 .refine VB f (aq _ _ _ ?_ _);unfold QF;rw[h.2.1,h.2.2,AdR,AdR,g.Ca,b.hn,Aeg];let⟨l,n,v,p,w,x,y⟩:=((k.Bc t m g.hb).Ax r u b.hn).call b.op
  have:n=o:=by
   have z:=b.CH;have:l=s:=by have:=e.ha;omega
   subst this;exact Aew (p.s.t e.hb)
  subst this;have:=e.An;omega
def n2{c:C _}(i:BD c){h:D}(f:BY c a)(g:b<a.Ac.l)(l:(a.at b).AP≠-1):Dn (mu h a) (mu h (EU c a b).1) (EU c a b).2.1:=by
 let⟨v,r,p,u,j,e,m⟩:=f.up g l
 let⟨s,k,d⟩:=f.W.sh.BC b _ (Di g)
 let⟨t,n,w,o,x,y⟩:=j.Ga i d
 unfold EU;simp only[e.2.1,e.2.2,AdR,d.Ca];exact VB m (YQ B (f:=k.Bk.l) (λz q=>⟨n,o,by omega⟩) _ Om)
def Aaj{f:C _}(j:BD f){h:D}(d:BY f a)(e:b<a.Ac.l)(m:(a.at b).AP≠-1)(g:N):Dn (mu h a) (mu h (JI a b g).1) (JI a b g).2.1:=by
 let⟨x,t,r,w,k,c,n⟩:=d.up e m
 let⟨u,l,i⟩:=d.W.sh.BC b _ (Di e)
 let⟨v,o,p,q,y,z⟩:=k.Ga j i
 unfold JI;simp only[c.2.1,c.2.2,AdR,p,Aeg];exact VB n (YQ B (f:=l.Bk.l) (λE s=>⟨o,q,by omega⟩) _ (by omega))
def uz{d:C Ab}(m:BD d){k:D}(f:BY d a)(h:b<a.Ac.l)(q:(a.at b).next≠-1):Dn (mu k a) (mu k (Gv d a b).1) (Gv d a b).2:=by
 let⟨r,g,i⟩:=f.next h q
 let⟨j,n,c⟩:=f.W.sh.BC b _ (Di h)
 let⟨s,t,e⟩:=f.W.sh.BC r _ (Di i)
 have l:=m.Bc j n c.hb;unfold Gv;simp only[g.next,AdR,c.Ca];refine VB i (aq _ _ _ ?_ _);have o:s=j:=by have:=c.ha;have:=e.ha;have:=g.Bc;omega
 subst o;have p:=Aew (e.hb.s.t c.hb);subst p;have:=e.An;have:=l.A_;omega
def ux{c:C Ab}(h:BD c){e:D}(z:e=5000)(i:BY c a)(j:b<a.Ac.l)(s:(a.at b).AP≠-1):Dn (mu e a) (mu e (Gu c a b).1) (Gu c a b).2.1:=by
 let⟨H,E,w,G,v,u,y⟩:=i.up j s
 let⟨k,g,f⟩:=i.W.sh.BC b _ (Di j)
 unfold Gu;simp only[];split
 .by_cases m:a.Ac.l=400
  .have p:EO c a (a.at b).Bc (a.at b).AP (a.at b).Ax ((a.at b).Az+1) (Et c (a.at b))=(a,5):=by unfold EO;grind
   rw[p];exact Dn.refl _
  .have q:EO c a (a.at b).Bc (a.at b).AP (a.at b).Ax ((a.at b).Az+1) (Et c (a.at b))=(⟨a.Ac++[{Dl c g k (a.at b).AP (a.at b).Ax ((a.at b).Az+1)with An:=(BG g.An.n AO).set 0 (Et c (a.at b))}],a.Am,a.round,a.AA⟩,0):=by
    unfold EO;rw[Ad m,f.ha,AdR,f.hb]
   rw[q]
   have l:¬((0:K)≠0):=by grind
   rw[Ad l]
   have F:=et h (Vi h f.hb (a.at b).AP (a.at b).Ax ((a.at b).Az+1) _ (br (h.Bc k g f.hb).An.1 (Et c (a.at b))))
   generalize({Dl c _ _ _ _ _ with An:=(BG g.An.n AO).set 0 (Et c (a.at b))})=d at*
   have t:(Ai.mk (a.Ac++[d]) a.Am a.round a.AA).Ac.l=a.Ac.l+1:=by grind
   have r:b<(Ai.mk (a.Ac++[d]) a.Am a.round a.AA).Ac.l:=by grind
   have n:(Ai.mk (a.Ac++[d]) a.Am a.round a.AA).at b=a.at b:=by rw[FQ,Ad (by omega)]
   have o:Dn (mu e a) (mu e ⟨a.Ac++[d],a.Am,a.round,a.AA⟩) L:=by
    unfold Dn mu;rw[t];have:EK Je (Ai.mk (a.Ac++[d]) a.Am a.round a.AA).Ac=EK Je a.Ac+Je d:=by show EK _ _=_;rw[AaC,TN];rfl
    rw[this];have x:=i.W.sh.A7;grind
   exact o.AI (VB r (by rw[n];exact Dn.refl _):Dn (mu e ⟨a.Ac++[d],a.Am,a.round,a.AA⟩) (mu e (Ai.AJ ⟨a.Ac++[d],a.Am,a.round,a.AA⟩ b {a.at b with next:=a.Ac.l})) Aa)
 .exact Dn.refl _
def uB{g:C Ab}(d:BD g){h:D}(p:h=5000){b:Ai}(a:BY g b){e:D}(c:e<b.Ac.l)(f:(b.at e).AP≠-1):Dn (mu h b) (mu h (ER g b e).1) (ER g b e).2.1:=by
 let⟨F,x,r,E,k,q,v⟩:=a.up c f
 let⟨z,s,i⟩:=a.W.sh.BC e _ (Di c)
 unfold ER;simp only[];split;.exact Dn.refl _
 .rename_i l;split;.exact Aaj d a c f _
  .rename_i o;have j:=ux d p a c f;split;.grind
   .rename_i w;let⟨t,y,u,m,n⟩:=(XN d a.W.sh (Di c) k i).2.2 (AdS Om)
    exact j.kp (uz d (bs d a c f l o) P (by rw[(DK m),n.next];omega))
def ro{a:C Ab}(f:BD a){e:D}(r:e=5000){b:Ai}(n:BY a b){c:D}(g:c<b.Ac.l):Dn (mu e b) (mu e (El a b c).1) (El a b c).2.1:=by
 unfold El;simp only[];split;.exact Dn.refl _
 .rename_i q;have o:=(T7 (c:=a) (Di g)).1;have j:=YM n g;have d:c<(Cj a b c).1.Ac.l:=by rw[o.A7];grind
  have k:((Cj a b c).1.at c).AP≠-1:=by rw[(o.R6 g).1.AP];grind
  let⟨y,v,t,x,m,s,u⟩:=j.up d k
  have p:=(Uw (b:=a) (Di d) m.AP m.Cc).1;have h:=lm f (j:=e) n g q;have i:=n2 f (h:=e) j d k;split;.have:=h.AI i.uR;grind
  .split;.exact h.AI i
   .exact(h.AI i).AI (uB f r (ZP f j d k) (by rw[p.A7];grind) (by rw[(p.R6 d).1.AP];grind))
def iP{c:C Ab}(d:BD c){e:D}(g:e=5000){b:Ai}(f:BY c b):∀a,Dn (mu e b) (mu e (B9 c b a).1) (B9 c b a).2.1
 |0=>Dn.refl _
 |a+1=>by
  have i:=iP d g f a;have h:=Tv d f a;rw[Rx];split;.grind
  .rename_i j;exact i.AI (ro d g h Om)
def gG{d:C Ab}(b:BD d){e h:D}(g:h=5000):∀{f:D}{a:Ai},BY d a->mu h a<f->∃l,IF d e f a=A l
 |0,a,c,k=>by omega
 |f+1,a,c,k=>by
  have i:=iP b g c e;have j:=Tv b c e;unfold IF;split;.grind
  .split;.rename_i m;refine gG b g j ?_;unfold Dn at i;grind
   grind
def uo{c:C Ab}(f:BD c)(n:d=5000){b:Ai}(a:CF c b):mu d b<=2000000:=by
 have m:=VX λg h=>by obtain⟨j,i⟩:=Aff.1 h;obtain⟨k,l,e⟩:=a.BC j g i;have:=et f e;omega
 have:=a.A7;unfold mu;grind
def av{a:C Ab}(c:BD a){g:D}(k:2000000<b){e:Ai}(d:BY a e):∃h,Ib a g b e=A h:=by
 obtain⟨i,f⟩:∃i:D,i=5000:=⟨_,B⟩;have:=uo c f d.W.sh;let⟨h,j⟩:=gG c (e:=g) (f:=b) f d (by omega)
 unfold Ib;grind
def wD{b:C Ab}(e:BD b){i f:D}(g:2000000<f)(d:G8 b a):∃j,KH b i f a=A j:=by
 unfold KH;simp only[];by_cases c:(C3 b (Br b a) (a.round+1) ⟨a.Ac,a.Am,a.round+1,a.AA⟩ (Br b a).l).2=0;.rw[Ad (λh=>h c:¬(C3 b _ _ _ _).2≠0)];exact av e g (Oy e d.X d.r0 _ Om c).X
 .rw[Af c];grind
def ci{b:C Ab}(g:BD b){i j:D}(l:2000000<j):∀{h:D}{a:Ai},G8 b a->6000-a.AA<h->∃k,HW b i j h a=A k
 |0,a,c,p=>by have:=c.X.W.AA;omega
 |h+1,a,c,p=>by
  unfold HW;by_cases e:(Br b a).l=0;.rw[Af e];grind
  .rw[Ad e];let⟨f,d⟩:=wD g (i:=i) l c
   rw[d];show∃k,(if f.2≠0 then A f else HW b i j h f.1)=A k;by_cases o:f.2=0
   .rw[Ad Om];refine ci g l (VJ g c e d o) ?_;have:f.1.AA=a.AA+(Br b a).l:=by
     unfold KH at d;simp only[]at d;by_cases e:(C3 b (Br b a) (a.round+1) ⟨a.Ac,a.Am,a.round+1,a.AA⟩ (Br b a).l).2=0
     .have n:¬(C3 b (Br b a) (a.round+1) ⟨a.Ac,a.Am,a.round+1,a.AA⟩ (Br b a).l).2≠0:=by grind
      rw[Ad n]at d;exact(UH d).2.2.t (Oy g c.X c.r0 _ Om e).AA
     grind
    omega
   grind
def bH{c:C Ab}{h f:D}(g:2000000<f)(a:AQ):∃i,JA c h f a=A i:=by
 unfold JA;by_cases b:D5 c=0
 .rw[Ad Om];by_cases d:JS (I8 c) a=0
  .rw[Ad Om];by_cases e:(Co a.l a.BT).2.2=0;.rw[Ad Om];exact av (HU b) g (cy (HU b) d e)
   .rw[Af e];grind
  .rw[Af d];grind
 .rw[Af b];grind
def n_{b:C Ab}{c a:D}(h:2000000<d)(p:6000<a)(j:AQ):∃f,Hr b c d a j=A f:=by
 unfold Hr;let⟨e,i⟩:=bH (c:=b) (h:=c) h j
 rw[i];show∃f,(if e.2≠0 then A e else HW b c d a _)=A f;by_cases k:e.2=0
 .rw[Ad Om];let⟨n,g⟩:=PL (λo=>HU o) i k
  have:=g.X.W.AA;exact ci (HU n) h g (by omega)
 grind
def DM(t:Bm->F)(e:Ai)(a:D):C F:=[.n (e.at a).Bc,.n (e.at a).AP,.n (e.at a).Ax,.n (e.at a).Az,t (.An a),t (.AG a),t (.AS a)]
def GO(a:AK):C F:=[.b (!Ao (a.next= -1))]
def L9(h:G)(t:Bm->F)(e:Ai)(r:C (C (C K))):Bm->Prop
 | .Ac=>Aw h (t .Ac) (DM t e) 7 (List.range e.Ac.l)
 | .An a=>a<e.Ac.l->Aw h (t (.An a)) N.c 2 (e.at a).An
 | .AG a=>a<e.Ac.l->Aw h (t (.AG a)) (EE λb=>t (.AD a b)) 1 (List.range (e.at a).AG.l)
 | .AD a b=>∀c,(e.at a).AG[b]? =A c->Aw h (t (.AD a b)) N.c 2 c
 | .AS a=>a<e.Ac.l->Aw h (t (.AS a)) Be 1 (e.at a).AS
 | .Bn=>Aw h (t .Bn) (EE λa=>t (.A4 a)) 1 (List.range r.l)
 | .A4 a=>∀d,r[a]? =A d->Aw h (t (.A4 a)) (EE λb=>t (.B1 a b)) 1 (List.range d.l)
 | .B1 a b=>∀d c,r[a]? =A d->d[b]? =A c->Aw h (t (.B1 a b)) Be 1 c
 | .Am=>Aw h (t .Am) GO 1 e.Ac
 |_=>True
theorem L9.Ar{h u:G}{t:Bm->F}{e:Ai}{r:C (C (C K))}{i:Bm}(c:L9 h t e r i)(b:∀f,Lv h f->¬As (t i) f->u.M f=h.M f/\Lv u f):L9 u t e r i:=by
 cases i with
 |Ac=>exact Aw.Ar c b
 |An d=>exactλa=>Aw.Ar (c a) b
 |AG d=>exactλa=>Aw.Ar (c a) b
 |AD d o=>exactλg a=>Aw.Ar (c g a) b
 |AS d=>exactλa=>Aw.Ar (c a) b
 |Bn=>exact Aw.Ar c b
 |A4 d=>exactλg a=>Aw.Ar (c g a) b
 |B1 d o=>exactλg a j k=>Aw.Ar (c g a j k) b
 |Am=>exact Aw.Ar c b
 |Ex=>trivial
 |C5=>trivial
 |BC d=>trivial
structure BZ(s:T->Bm)(h:G)(l:C Ab)(x:T)(e:Ai)(r:C (C (C K)))(q:K)(t:Bm->F):Prop where
 M:h.M x=A (.I 8 [Z Ab.c l,t .Ac,Z AE.c e.Am,.n e.round,.n e.AA,t .Bn,t .Am,.n q])
 lv:Lv h x
 B3:s x=.Ex
 tg:∀a,a≠.C5->∀b,¬As (t a) b->Lv h b/\s b=a
 Db:∀a,L9 h t e r a
section
variable{s:T->Bm} {h:G} {l:C Ab} {x:T} {e:Ai} {r:C (C (C K))} {q:K} {t:Bm->F}
theorem BZ.Ar{u:G}(a:BZ s h l x e r q t)(f:∀b,Lv h b->s b≠.C5->u.M b=h.M b/\Lv u b):BZ s u l x e r q t where
 M:=(f x a.lv (by rw[a.B3];grind)).1.t a.M
 lv:=(f x a.lv (by rw[a.B3];grind)).2
 B3:=a.B3
 tg:=λc g b d=>⟨(f b (a.tg c g b d).1 (by rw[(a.tg c g b d).2];grind)).2,(a.tg c g b d).2⟩
 Db:=λc=>by
  by_cases i:c=.C5;.subst i;trivial
  .exact(a.Db c).Ar λj k d=>f j k (by rw[(a.tg c i j d).2];grind)
theorem BZ.ext{u:G}(a:BZ s h l x e r q t)(b:AH h u):BZ s u l x e r q t:=a.Ar P
theorem BZ.Ep{u:G}{c:Ai}{j:C (C (C K))}{f:Bm}(b:BZ s h l x e r q t)(i:EM s h u f)(z:∀d,Lv h d->Lv u d)(k:f≠.Ex)(E:c.Am=e.Am)(H:c.round=e.round)(y:c.AA=e.AA)(J:L9 u t c j f)(I:∀a,a≠f->L9 u t e r a->L9 u t c j a):BZ s u l x c j q t where
 M:=by rw[E,H,y];exact(i x b.lv (by rw[b.B3];grind)).1.t b.M
 lv:=(i x b.lv (by rw[b.B3];grind)).2
 B3:=b.B3
 tg:=λa k o g=>⟨z o (b.tg a k o g).1,(b.tg a k o g).2⟩
 Db:=λa=>by
  by_cases w:a=f;.grind
  .by_cases v:a=.C5;.subst v;trivial
   .exact I _ w ((b.Db a).Ar λd F g=>i d F (by rw[(b.tg a v d g).2];grind))
theorem BZ.Yg{u:G}{j f o:K}{g:C AE}(b:BZ s h l x e r q t)(E:u.M x=A (.I 8 [Z Ab.c l,t .Ac,Z AE.c g,.n j,.n f,t .Bn,t .Am,.n o]))(y:EM s h u .Ex)(v:∀c,Lv h c->Lv u c):BZ s u l x ⟨e.Ac,g,j,f⟩ r o t where
 M:=E
 lv:=v x b.lv
 B3:=b.B3
 tg:=λa w i d=>⟨v i (b.tg a w i d).1,(b.tg a w i d).2⟩
 Db:=λa=>by
  have H:L9 h t ⟨e.Ac,g,j,f⟩ r a:=by have:=b.Db a;cases a<;>exact this
  by_cases z:a=.Ex;.subst z;trivial
  .by_cases k:a=.C5;.subst k;trivial
   .exact H.Ar λc F d=>y c F (by rw[(b.tg a k c d).2];grind)
theorem BZ.Wt(c:BZ s h l x e r q t)(b:D)(a:F)(G:b<8)(z:a.I=[a])(E:Fl a=L){i f d:K}{g:C AE}(w:Dg b [a] [Z Ab.c l,t .Ac,Z AE.c e.Am,.n e.round,.n e.AA,t .Bn,t .Am,.n q]=[Z Ab.c l,t .Ac,Z AE.c g,.n i,.n f,t .Bn,t .Am,.n d]):∃u,AX 1 h [.p x b,a]=A (AC,u)/\BZ s u l x ⟨e.Ac,g,i,f⟩ r d t/\EM s h u .Ex:=by have k:=Gx (d:=b) (a:=a) c.M (by omega) (by omega) z E;rw[w]at k;have j:EM s h (h.set x (.I 8 [Z Ab.c l,t .Ac,Z AE.c g,.n i,.n f,t .Bn,t .Am,.n d])) .Ex:=Rr c.B3 (λH y=>by rw[AN,Ad y]) P;exact⟨_,k,c.Yg (by rw[AN,Af B]) j P,j⟩
theorem BZ.MZ(b:BZ s h l x e r q t)(a:K):∃u,AX 1 h [.p x 4,.n a]=A (AC,u)/\BZ s u l x ⟨e.Ac,e.Am,e.round,a⟩ r q t/\EM s h u .Ex:=b.Wt 4 _ (by omega) B B B
theorem BZ.Yj(b:BZ s h l x e r q t)(a:K):∃u,AX 1 h [.p x 3,.n a]=A (AC,u)/\BZ s u l x ⟨e.Ac,e.Am,a,e.AA⟩ r q t/\EM s h u .Ex:=b.Wt 3 _ (by omega) B B B
theorem BZ.RG(b:BZ s h l x e r q t)(a:K):∃u,AX 1 h [.p x 7,.n a]=A (AC,u)/\BZ s u l x e r a t/\EM s h u .Ex:=b.Wt 7 _ (by omega) B B B
theorem BZ.Cc(i:BZ s h l x e r q t){a:D}(g:a<e.Ac.l):∃b,AR 7 [t .Ac,.n a]=A (.p b (a*7))/\∀c,c<7->h.Ap b (a*7+c)=(DM t e a)[c]? :=by
 let⟨b,d⟩:=CD (f:=DM t e) (w:=7) (λ_=>B) (i.Db .Ac) (F9 g)
 exact⟨b,d.ia,λc j=>d.Ap (f:=DM t e) (w:=7) (λ_=>B) (F9 g) j⟩
theorem Vt{a:T}{c:BV}{b:Bm}(f:s a=b):EM s h (h.set a c) b:=Rr f (λg d=>by rw[AN,Ad d]) P
theorem Ym{h:G}{a:D}{b:AK}(g:a<e.Ac.l)(v:DQ (e.at a) b){i:Bm}(c:L9 h t e r i)(R:i=.An a->b.An=(e.at a).An)(J:∀k,i=.AD a k->b.AG[k]? =(e.at a).AG[k]?)(P:i=.AS a->b.AS=(e.at a).AS)(Q:i=.Am->b.next=(e.at a).next):L9 h t (e.AJ a b) r i:=by
 have w:(e.AJ a b).Ac.l=e.Ac.l:=Ej ..
 cases i with
 |Ac=>
  show Aw h (t .Ac) (DM t (e.AJ a b)) 7 (List.range (e.AJ a b).Ac.l);rw[(funext λc=>by
   unfold DM;rw[E4 g];split;.rename_i d;subst d;rw[v.Bc,v.AP,v.Ax,v.Az]
   grind:DM t (e.AJ a b)=DM t e),w];exact c
 |An j=>intro f;rw[w]at f;have:=c f;rw[E4 g];grind
 |AG j=>
  intro f;rw[w]at f;have:=c f;rw[E4 g];split;.rename_i d;subst d;have:=AdW List.length v.AG;grind
  omega
 |AD j k=>
  intro z o;rw[E4 g]at o;split at o;.rename_i d;subst d;rw[J k B]at o;exact c z o
  .exact c z o
 |AS j=>intro f;rw[w]at f;have:=c f;rw[E4 g];grind
 |Bn=>exact c
 |A4 j=>exact c
 |B1 j k=>exact c
 |Am=>
  have M:(e.AJ a b).Ac.f GO=e.Ac.f GO:=by
   have:(e.AJ a b).Ac.m GO=e.Ac.m GO:=by
    refine AeP λy=> ?_;rw[Aeo,Aeo];show((e.Ac.set a b)[y]?).map GO=_;by_cases d:y=a;.subst d;rw[Aex g,Di g];show A (GO b)=A (GO (e.at y));unfold GO;grind
    grind
   grind
  show Aw h _ _ 1 _;rcases(c:Aw h _ _ 1 _)with⟨F,H⟩|⟨E,d,F,H,N,I⟩;.grind
  .exact .j ⟨E,d,by grind,by grind,by grind,I⟩
 |Ex=>trivial
 |C5=>trivial
 |BC j=>trivial
theorem BZ.Yi(k:BZ s h l x e r q t){a b:D}{E:N}(v:a<e.Ac.l)(j:(e.at a).An[b]? =A E)(g:N):∃d u,AR 2 [t (.An a),.n b]=A (.p d (b*2))/\h.Ap d (b*2)=A (.i .u8 E.Ak)/\h.AL d (b*2) 2=A (N.c E)/\AX 2 h [.p d (b*2),.S (N.c g)]=A (AC,u)/\BZ s u l x (e.AJ a {e.at a with An:=(e.at a).An.set b g}) r q t/\EM s h u (.An a):=by
 have G:=k.Db (.An a) v;let⟨d,i⟩:=CD (f:=N.c) (w:=2) (λ_=>B) G j
 let⟨H,Q⟩:=i.set (f:=N.c) (w:=2) (λ_=>B) G j (c:=g) (g:=.S (N.c g)) B B
 have F:=Vt (h:=h) (c:=.I ((e.at a).An.l*2) (((e.at a).An.set b g).f N.c)) (k.tg (.An a) (by grind) d i.nb).2;refine⟨d,_,i.ia,by exact(i.Ap (f:=N.c) (w:=2) (λ_=>B) j (b:=0) (by omega)),i.AL (f:=N.c) (w:=2) (λ_=>B) j,H,k.Ep F P (by grind) B B B ?_ λR J I=>Ym (b:={e.at a with An:=(e.at a).An.set b g}) v ⟨B,B,B,B,Aed,B,B,B⟩ I P P (λ_=>B) (λ_=>B),F⟩;intro _;rw[HE v];grind
theorem BZ.cp(j:BZ s h l x e r q t){a b:D}{G:K}(k:a<e.Ac.l)(v:(e.at a).AS[b]? =A G)(g:K):∃d u,AR 1 [t (.AS a),.n b]=A (.p d (b*1))/\h.Ap d (b*1)=A (.n G)/\AX 1 h [.p d (b*1),.n g]=A (AC,u)/\BZ s u l x (e.AJ a {e.at a with AS:=(e.at a).AS.set b g}) r q t/\EM s h u (.AS a):=by
 have F:=j.Db (.AS a) k;let⟨d,i⟩:=CD (f:=Be) (w:=1) (λ_=>B) F v
 let⟨H,Q⟩:=i.set (f:=Be) (w:=1) (λ_=>B) F v (c:=g) (g:=.n g) B B
 have E:=Vt (h:=h) (c:=.I ((e.at a).AS.l*1) (((e.at a).AS.set b g).f Be)) (j.tg (.AS a) (by grind) d i.nb).2;refine⟨d,_,i.ia,by exact(i.Ap (f:=Be) (w:=1) (λ_=>B) v (b:=0) (by omega)),H,j.Ep E P (by grind) B B B ?_ λR J I=>Ym (b:={e.at a with AS:=(e.at a).AS.set b g}) k ⟨B,B,B,B,B,B,Aed,B⟩ I P P (λN=>BF N J) (λ_=>B),E⟩;intro _;rw[HE k];grind
theorem BZ.Ga(i:BZ s h l x e r q t){b a:D}{v:C N}(j:b<e.Ac.l)(k:(e.at b).AG[a]? =A v):∃c,AR 1 [t (.AG b),.n a]=A (.p c (a*1))/\h.Ap c (a*1)=A (t (.AD b a)):=by
 have g:=(AdN.1 k).1;let⟨c,d⟩:=CD (f:=EE λa=>t (.AD b a)) (w:=1) (λ_=>B) (i.Db (.AG b) j) (F9 g)
 exact⟨c,d.ia,by exact(d.Ap (f:=EE λa=>t (.AD b a)) (λ_=>B) (F9 g) (b:=0) (by grind))⟩
theorem BZ.PP(E:BZ s h l x e r q t){b d a:D}{j:C N}{F:N}(H:b<e.Ac.l)(I:(e.at b).AG[d]? =A j)(v:j[a]? =A F)(g:N):∃i u,AR 2 [t (.AD b d),.n a]=A (.p i (a*2))/\h.Ap i (a*2)=A (.i .u8 F.Ak)/\h.AL i (a*2) 2=A (N.c F)/\AX 2 h [.p i (a*2),.S (N.c g)]=A (AC,u)/\BZ s u l x (e.AD b d a g) r q t/\EM s h u (.AD b d):=by
 have P:=E.Db (.AD b d) j I;let⟨i,k⟩:=CD (f:=N.c) (w:=2) (λ_=>B) P v
 let⟨Q,Y⟩:=k.set (f:=N.c) (w:=2) (λ_=>B) P v (c:=g) (g:=.S (N.c g)) B B
 have G:=Vt (h:=h) (c:=.I (j.l*2) ((j.set a g).f N.c)) (E.tg (.AD b d) (by grind) i k.nb).2;have S:((e.at b).AD d a g).AG=(e.at b).AG.set d (j.set a g):=TK I a g;have R:d<(e.at b).AG.l:=by grind
 refine⟨i,_,k.ia,by have:=k.Ap (f:=N.c) (w:=2) (λ_=>B) v (b:=0) (by omega);exact this,k.AL (f:=N.c) (w:=2) (λ_=>B) v,Q,E.Ep G (λU V=>by grind) (by grind) B B B ?_ λxa X T=>Ym (b:=(e.at b).AD d a g) H ⟨B,B,B,B,B,TJ _ _ _ _,B,B⟩ T (λ_=>B) (λW U=> ?_) (λ_=>B) (λ_=>B),G⟩;.intro Z J;unfold Ai.AD at J;rw[HE H,S,Aex R]at J;grind
 .grind
theorem BZ.jN(F:BZ s h l x e r q t){a b j:D}{k:C (C K)}{E:C K}{Z:K}(i:r[a]? =A k)(Q:k[b]? =A E)(R:E[j]? =A Z)(H:K):
  ∃I J v u,AR 1 [t .Bn,.n a]=A (.p I (a*1))/\h.Ap I (a*1)=A (t (.A4 a))/\AR 1 [t (.A4 a),.n b]=A (.p J (b*1))/\h.Ap J (b*1)=A (t (.B1 a b))/\
   AR 1 [t (.B1 a b),.n j]=A (.p v (j*1))/\h.Ap v (j*1)=A (.n Z)/\AX 1 h [.p v (j*1),.n H]=A (AC,u)/\BZ s u l x e (r.set a (k.set b (E.set j H))) q t/\EM s h u (.B1 a b):=by
 have Y:=F.Db (.B1 a b) k E i Q
 have W:=(AdN.1 i).1
 have X:=(AdN.1 Q).1
 let⟨I,U⟩:=CD (f:=EE λa=>t (.A4 a)) (w:=1) (λ_=>B) (F.Db .Bn) (F9 W)
 let⟨J,V⟩:=CD (f:=EE λb=>t (.B1 a b)) (w:=1) (λ_=>B) (F.Db (.A4 a) k i) (F9 X)
 let⟨v,c⟩:=CD (f:=Be) (w:=1) (λ_=>B) Y R
 let⟨xb,xe⟩:=c.set (f:=Be) (w:=1) (λ_=>B) Y R (c:=H) (g:=.n H) B B
 have T:=Vt (h:=h) (c:=.I (E.l*1) ((E.set j H).f Be)) (F.tg (.B1 a b) (by grind) v c.nb).2
 refine⟨I,J,v,_,U.ia,by exact(U.Ap (f:=EE λa=>t (.A4 a)) (λ_=>B) (F9 W) (b:=0) (by grind)),V.ia,by exact(V.Ap (f:=EE λb=>t (.B1 a b)) (λ_=>B) (F9 X) (b:=0) (by grind)),c.ia,by exact(c.Ap (f:=Be) (w:=1) (λ_=>B) R (b:=0) (by omega)),xb,F.Ep T P (by grind) B B B ?_ λxc xd d=> ?_,T⟩
 .intro N S g G;grind
 .cases xc with
  |Bn=>show Aw _ _ _ 1 (List.range (r.set a _).l);rw[Aed];exact d
  |A4 c=>
   intro N g;rcases Ik i g with⟨rfl,rfl⟩|⟨_,g⟩;.rw[Aed];exact d k i
   .exact d N g
  |B1 c xa=>
   intro N S g G;rcases Ik i g with⟨rfl,rfl⟩|⟨_,g⟩
   .rcases Ik Q G with⟨rfl,rfl⟩|⟨_,G⟩;.grind
    .exact d k S i G
   .exact d N S g G
  |Ac=>exact d
  |An c=>exact d
  |AG c=>exact d
  |AD c xa=>exact d
  |AS c=>exact d
  |Am=>exact d
  |Ex=>trivial
  |C5=>trivial
  |BC c=>trivial
theorem BZ.TG{i:T->Bm}{u:G}(b:BZ s h l x e r q t)(c:∀a,Lv h a->u.M a=h.M a/\Lv u a/\i a=s a):BZ i u l x e r q t where
 M:=(c x b.lv).1.t b.M
 lv:=(c x b.lv).2.1
 B3:=(c x b.lv).2.2.t b.B3
 tg:=λd f a g=>⟨(c a (b.tg d f a g).1).2.1,(c a (b.tg d f a g).1).2.2.t (b.tg d f a g).2⟩
 Db:=λd=>(b.Db d).Ar P
end
structure EC where
 l:C Ab
 x:T
def Bj(n:EC)(h:G)(e:Ai)(r:C (C (C K)))(q:K)(p:T->Prop):Prop:=∃s t,BZ s h n.l n.x e r q t/\∀a,p a->Lv h a/\s a=.C5
section
variable{n:EC} {h u:G} {e:Ai} {r:C (C (C K))} {q:K} {p m:T->Prop}
theorem Bj.ext(b:Bj n h e r q p)(a:AH h u):Bj n u e r q p:=by
 let⟨s,t,c,d⟩:=b
 exact⟨s,t,c.ext a,P⟩
open Classical in
theorem Bj.V (f:Bj n h e r q p) (c:AH h u):Bj n u e r q (ES p h u):=by
 let⟨s,t,g,i⟩:=f
 refine⟨λa=>if Lv h a then s a else .C5,t,g.TG λa d=>⟨c.M d,c.lv d,Af d⟩,λa b=> ?_⟩;rcases b with b|b;.exact⟨c.lv (i a b).1,by grind⟩
 .grind
theorem Bj.sub(b:Bj n h e r q p)(f:∀a,m a->p a):Bj n h e r q m:=by
 let⟨s,t,c,d⟩:=b
 exact⟨s,t,c,P⟩
theorem Bj.C4(b:Bj n h e r q p){a:T}(f:p a):Lv h a:=by
 let⟨s,t,c,d⟩:=b
 grind
end
section
variable{z:T->Bm} {h:G} {l:C Ab} {x:T} {e:Ai} {v:C (C (C K))} {u:K} {t:Bm->F}
theorem BZ.B0(d:BZ z h l x e v u t){a:D}(g:a<e.Ac.l):∃b,AR 7 [t .Ac,.n a]=A (.p b (a*7))/\AM h [.p b (a*7+0)]=A (.n (e.at a).Bc)/\AM h [.p b (a*7+1)]=A (.n (e.at a).AP)/\AM h [.p b (a*7+2)]=A (.n (e.at a).Ax)/\AM h [.p b (a*7+3)]=A (.n (e.at a).Az)/\AM h [.p b (a*7+4)]=A (t (.An a))/\AM h [.p b (a*7+5)]=A (t (.AG a))/\AM h [.p b (a*7+6)]=A (t (.AS a)):=by
 let⟨b,f,c⟩:=d.Cc g
 exact⟨b,f,c 0 (by omega),c 1 (by omega),c 2 (by omega),c 3 (by omega),c 4 (by omega),c 5 (by omega),c 6 (by omega)⟩
theorem Eg(x:T):Bl 0 [.p x 1]=A (.p x 1):=by rw[EG]
theorem Qx(x:T):Bl 1 [.p x 1]=A (.p x 2):=by rw[EG]
theorem W8(x:T):Bl 2 [.p x 1]=A (.p x 3):=by rw[EG]
theorem Pe(x:T):Bl 3 [.p x 1]=A (.p x 4):=by rw[EG]
theorem Ha(a:T)(b c:D):Bl c [.p a (b*7)]=A (.p a (b*7+c)):=by rw[EG]
theorem BZ.cv(a:BZ z h l x e v u t):h.Ap x 1=A (t .Ac):=Ay a.M 1
theorem UC(J:BZ z h l x e v u t){c:D}(k:c<e.Ac.l)(a:AF){m:N}(b:H0 (e.at c) a=A m):∃G,W9 (pos 66) [.p x 0,.n c,.S (AF.c a)] h=A (.S (N.c m),G)/\AH h G:=by
 let⟨xr,R,xl,xj,o,P,U,xq⟩:=box h (.I 2 (AF.c a))
 let⟨xs,xi,xm,xk,p,Q,xp,W⟩:=box R (.I 2 [.i .u8 0,.n 0])
 have n:=o.AI p;have X:=λT=>W (o.lv T);have d:=J.ext n;have F:=(p.M U).t P;have Z:=F;have xa:=F;have xu:=d.cv;let⟨s,xo,xb,xc,xd,xe,xf,xg,xh⟩:=d.B0 k
 let⟨S,xw,xt,E⟩:=Gy Q m
 refine⟨S,AZ B B ?_,by rw[E];exact n.Gw X _⟩;clear E;rw[hq.1];unfold H0 at b;by_cases y:a.Ax<0
 .rw[Af y]at b;by_cases j:0<=a.AD
  .rw[Af j]at b;let⟨i,q⟩:=CD (f:=N.c) (w:=2) (λ_=>B) (d.Db (.An c) k) b
   have I:AR 2 [t (.An c),.n a.AD]=A (.p i (a.AD.n*2)):=by have:=q.ia;rwa[show a.AD.n=a.AD by omega]at this
   have Y:=q.AL (f:=N.c) (λ_=>B) b;simp only[QY,H (Eg x),H (Ha s c 4), *]
  .grind
 .rw[Ad y]at b;by_cases j:0<=a.AD
  .rw[Af j]at b
   cases g:(e.at c).AG[a.Ax.n]?with
   |none=>rw[g]at b;cases b
   |some V=>
    rw[g]at b;let⟨i,I,xv⟩:=d.Ga k g
    have I:AR 1 [t (.AG c),.n a.Ax]=A (.p i (a.Ax.n*1)):=by grind
    let⟨M,r⟩:=CD (f:=N.c) (w:=2) (λ_=>B) (d.Db (.AD c a.Ax.n) V g) b
    have xn:AR 2 [t (.AD c a.Ax.n),.n a.AD]=A (.p M (a.AD.n*2)):=by have:=r.ia;rwa[show a.AD.n=a.AD by omega]at this
    have Y:=r.AL (f:=N.c) (λ_=>B) b;simp only[QY,hq.2,H (Eg x),H (Ha s c 5), *]
  .grind
structure c7(l:C Ab)(e:Ai)(c d:D)(b:Ab)(f:Au):Prop where
 GZ:∃a:D,(e.at c).Bc=(a:K)/\l[a]? =A b
 hn:b.Av[d]? =A f
theorem Xe(r:BZ z h l x e v u t){g Y:D}(W:g<e.Ac.l){J:Ab}{a:Au}(xd:c7 l e g Y J a){G:C N}(R:Kh (e.at g) a.A3=A G)(xB:a.A3.l<1000000):∃b k,W9 (pos 106) [.p x 0,.n g,.n Y] h=A (b,k)/\Aw k b N.c 2 G/\AH h k/\Dx h b:=by
 let⟨xm,xk⟩:=Yu R
 let⟨⟨xy,xj,xl⟩,xn⟩:=xd
 let⟨b,k,M,E,o,m⟩:=Dh (h:=a.A3.l) (f:=λj b h=>jj W9 106 2 [.p x 0,.n g,Z AF.c a.A3,.n j,b] h) (g:=λj b q=>Aw q b N.c 2 (G.t j)/\AH h q/\Dx h b)
  (λj b q X xc=>by
   let⟨E,o,m⟩:=xc
   let⟨P,V⟩:=Bb X
   let⟨xb,R,xo⟩:=xk V
   have xf:=Cm X;have xw:A9 2 q [.pi (AF.c P)]=A (.S (AF.c P)):=B;let⟨xA,xq,S⟩:=UC (r.ext o) W P R
   have xC:(G.t j).l<=j:=by grind
   let⟨xx,xi,xr,xa,U,xe⟩:=FJ (f:=N.c) (w:=2) (b:=xb) (o:=.S (N.c xb)) (h:=16) (λ_=>B) B B (E.ext S) (DG (by omega))
   rw[FL xo]at xa;have p:=o.AI S;refine⟨xx,xi,?_,xa,λd c=>⟨(U.M (p.lv c) (m d c)).t (p.M c),U.lv (p.lv c) (m d c)⟩,λd c=>xe d (p.lv c) (m d c)⟩;rw[SN.2.2.1];simp only[QY,DF AF.c a.A3,xf,SN.2.2.2.1,IE V,xw,xq,xr,SN.2.2.2.2,Bh (a:=j) (by omega)])
  (b:=.sn) (a:=h) ⟨Aw.sn h,λd c=>⟨B,c⟩,λd _=>Cg d⟩
 have M:jj W9 106 2 [.p x 0,.n g,Z AF.c a.A3,.n 0,.sn] h=jj W9 106 2 [.p x 0,.n g,Z AF.c a.A3,.n a.A3.l,b] k:=M;have xg:=CA a.A3.l;rw[xm,Gz]at E;refine⟨b,k,AZ B B ?_,E,o,m⟩;have xv:=r.cv;have xu:=r.M;let⟨xz,xp,T,_⟩:=r.B0 W
 rw[xj]at T;have xs:AM h [.pi ((Ab.c J).d 2)]=A (Z Au.c J.Av):=B;have xh:Bl 3 [.pi (Au.c a)]=A (.pi ((Au.c a).d 3)):=B;have xt:AM h [.pi ((Au.c a).d 3)]=A (Z AF.c a.A3):=B;rw[SN.1];simp only[QY,xv,xu,xp,T,CB xl,f2,xs,Fa xn,xh,xt];rw[M,SN.2.2.1];simp only[↓Q,↓QT,AdM,↓H (DF AF.c a.A3),xg,SN.2.1]
end
def I3(l:C N):D:=l.countP λa=> !Ao (a.Ak=0)
theorem m8(l:C N)(a:N):I3 (l++[a])=I3 l+(if a.Ak=0 then 0 else 1):=by unfold I3;grind
theorem m7(l:C _):I3 l<=l.l:=List.countP_le_length
theorem m_{b:AK}{d:C AF}:(0<I3 (d.m (Bs b)))↔d.any (Hi b)=L:=by
 unfold I3;rw[List.countP_pos_iff,AfC];constructor
 .rintro⟨g,f,h⟩
  obtain⟨c,a,rfl⟩:=Aeu.1 f;exact⟨c,a,h⟩
 .rintro⟨c,a,h⟩
  exact⟨_,List.mem_map_of_mem a,h⟩
theorem m9{b:AK}{a:C AF}:(I3 (a.m (Bs b))=a.l)↔a.all (Hi b)=L:=by
 unfold I3;have:=List.countP_eq_length (p:=λf:N=> !Ao (f.Ak=0)) (l:=a.m (Bs b));rw[Ad9]at this;rw[this,Aei];constructor;.intro h d c;exact h _ (List.mem_map_of_mem c)
 .intro h f g;obtain⟨d,c,rfl⟩:=Aeu.1 g;exact h d c
theorem wt{b:AK}{c:Au}{a:K}(h:a>0):FH b c a=Aa:=by unfold FH;grind
theorem wo{c:AK}{a:Au}{b:K}(h:¬b>0)(f:a.op=8\/a.op=9){d:N}(i:(a.A3.m (Bs c))[0]? =A d):FH c a b= !Ao (d.Ak=0):=by
 unfold FH
 rw[Ad h,Af f]
 cases g:a.A3 with
 |nil=>grind
 |cons b j=>
  rw[g]at i;have:Bs c b=d:=by grind
  rw[<-this];rfl
theorem wn{b:AK}{a:Au}{c:K}(h:¬c>0)(d:a.op=6):FH b a c=a.A3.any (Hi b):=by unfold FH;grind
theorem ws{b:AK}{a:Au}{c:K}(h:¬c>0)(f:¬(a.op=8\/a.op=9))(d:a.op≠6):FH b a c=a.A3.all (Hi b):=by unfold FH;grind
section
variable{y:T->Bm} {h:G} {l:C Ab} {x:T} {e:Ai} {v:C (C (C K))} {u:K} {t:Bm->F}
theorem BZ.oy(j:BZ y h l x e v u t){b c:D}{i:K}(k:b<e.Ac.l)(g:(e.at b).AS[c]? =A i):∃a,AR 1 [t (.AS b),.n c]=A (.p a (c*1))/\AM h [.p a (c*1)]=A (.n i):=by
 let⟨a,d⟩:=CD (f:=Be) (w:=1) (λ_=>B) (j.Db (.AS b) k) g
 exact⟨a,d.ia,by exact(d.Ap (f:=Be) (w:=1) (λ_=>B) g (b:=0) (by omega))⟩
theorem tX{d:C N}(Y:d.l<1000000){k:F}{g:G}(R:Aw g k N.c 2 d)(m q z:F):jj W9 105 4 [.n 0,m,q,z,.n 0,k] g=jj W9 105 4 [.n (d.l:K),m,q,z,.n (I3 d:K),k] g:=by
 have xa:=Cp R;obtain⟨j,T,V,rfl,rfl⟩:=Dh (h:=d.l) (f:=λc (j:D) h=>jj W9 105 4 [.n (c:K),m,q,z,.n (j:K),k] h) (g:=λc j h=>h=g/\j=I3 (d.t c))
  (λc j h Q S=>by
   obtain⟨rfl,rfl⟩:=S;let⟨M,J⟩:=Bb Q
   have U:=Cm Q;let⟨r,p⟩:=CD (f:=N.c) (w:=2) (λ_=>B) R J
   have xb:AM h [.p r (c*2+0)]=A (.i .u8 M.Ak):=by exact(p.Ap (f:=N.c) (w:=2) (λ_=>B) J (b:=0) (by omega))
   have X:Bl 0 [.p r (c*2)]=A (.p r (c*2+0)):=by rw[EG]
   have Z:I3 (d.t c)<=c:=Aem (m7 _) (by grind);have E:=m8 (d.t c) M;rw[FL J]at E;have W:=F2 (a:=(I3 (d.t c):K)) (b:=1) (by omega) (by omega);by_cases P:M.Ak=0;.rw[Af P]at E;refine⟨I3 (d.t c),h,?_,B,by grind⟩;rw[K2.2.2.2.1];simp only[QY,K2.2.2.2.2.1,H p.ia,K2.2.2.2.2.2.1,H (Bh (a:=c) (by omega)), *]
   .rw[Ad P]at E;refine⟨I3 (d.t c)+1,h,?_,B,by grind⟩;rw[K2.2.2.2.1];simp only[QY,K2.2.2.2.2.1,H p.ia,K2.2.2.2.2.2.1,H (Bh (a:=c) (by omega)),AfD,Int.cast_ofNat_Int, *])
  (b:=0) (a:=g) ⟨B,B⟩
 grind
theorem qY(k:BZ y h l x e v u t){b E:D}(r:b<e.Ac.l){I:Ab}{a:Au}(W:c7 l e b E I a){P:K}(xf:(e.at b).AS[E]? =A P)(xi:Kh (e.at b) a.A3=A (a.A3.m (Bs (e.at b))))(xg:1<=a.A3.l/\a.A3.l<1000000):∃V,W9 (pos 105) [.p x 0,.n b,.n E] h=A (.b (FH (e.at b) a P),V)/\AH h V:=by
 have xG:=k.cv;let⟨xc,xA,xp,xq,xr,xs,xt,xu,j⟩:=k.B0 r
 let⟨xn,xB,xH⟩:=k.oy r xf
 by_cases p:P>0;.rw[wt p];refine⟨h,AZ B B ?_,λxE xh=>⟨B,xh⟩⟩;rw[K2.1];simp only[QY,H (Eg x),H (Ha xc b 6), *]
 .let⟨S,g,xC,R,U,xx⟩:=Xe k r W xi xg.2
  have d:=k.ext U;let⟨xm,z,m,_⟩:=d.B0 r
  let⟨⟨xj,xe,q⟩,s⟩:=W
  rw[xe]at m;have G:AM g [.pi ((Ab.c I).d 2)]=A (Z Au.c I.Av):=B;have xw:Bl 0 [.pi (Au.c a)]=A (.pi ((Au.c a).d 0)):=B;have F:AM g [.pi ((Au.c a).d 0)]=A (.i .u8 a.op):=B;have xD:(a.A3.m (Bs (e.at b))).l=a.A3.l:=by grind
  have xb:=Cp R;have xl:=m_ (b:=e.at b) (d:=a.A3);have xk:=m9 (b:=e.at b) (a:=a.A3);let⟨T,Q⟩:=Bb (b:=a.A3.m (Bs (e.at b))) (a:=0) (by omega)
  let⟨n,X⟩:=CD (f:=N.c) (w:=2) (λ_=>B) R Q
  have xz:AR 2 [S,.n 0]=A (.p n (0*2)):=X.ia;have xy:Bl 0 [.p n (0*2)]=A (.p n (0*2+0)):=by rw[EG]
  have xF:AM g [.p n (0*2+0)]=A (.i .u8 T.Ak):=by exact(X.Ap (f:=N.c) (w:=2) (λ_=>B) Q (b:=0) (by omega))
  have xv:=DW .u8 T.Ak 0;refine⟨g,AZ B B ?_,U⟩;rw[K2.1];simp only[QY,K2.2.1, *];rw[(tX (by omega) R (.p x 0) (.n b) (.n E)),K2.2.2.2.1];simp only[QY,xb,(CA (a.A3.m (Bs (e.at b))).l)];rw[K2.2.2.1];by_cases j:a.op=6;.rw[wn p j];simp only[QY,d.M,d.cv,z,m,CB q,G,Fa s,F,j,(Ew .n (I3 (a.A3.m (Bs (e.at b)))) 0)];grind
  .by_cases Y:a.op=8\/a.op=9
   .rw[wo p Y Q];have xd:jj W9 105 2 [.b L,.n (I3 (a.A3.m (Bs (e.at b)))),S] g=A (.b (!Ao (T.Ak=0)),g):=by rw[K2.2.2.2.2.2.2.2];simp only[QY, *]
    by_cases J:a.op=8;.simp only[QY,Int.reduceEq,d.M,d.cv,z,m,CB q,G,Fa s,F,J];grind
    .have M:a.op=9:=by omega
     simp only[QY,Int.reduceEq,d.M,d.cv,z,m,CB q,G,Fa s,F,j,M];grind
   .rw[ws p Y j];have J:¬a.op=8:=by omega
    have M:¬a.op=9:=by omega
    have xd:jj W9 105 2 [.b Aa,.n (I3 (a.A3.m (Bs (e.at b)))),S] g=A (.b (a.A3.all (Hi (e.at b))),g):=by
     rw[K2.2.2.2.2.2.2.2];simp only[QY,K2.2.2.2.2.2.2.1,xb,(Ch .n (I3 (a.A3.m (Bs (e.at b)))) (a.A3.m (Bs (e.at b))).l)];by_cases xo:a.A3.all (Hi (e.at b))=L;.grind
     .have:a.A3.all (Hi (e.at b))=Aa:=by grind
      rw[this,A2 (by grind)]
    have xa:=Ch .u8 a.op 9;rw[A2 M]at xa;simp only[QY,d.M,d.cv,z,m,CB q,G,Fa s,F,j,J,xa];grind
end
section
variable{z:T->Bm} {h:G} {l:C Ab} {x:T} {e:Ai} {v:C (C (C K))} {u:K} {t:Bm->F}
theorem rC(xg:BD l)(xh:BZ z h l x e v u t){a:D}(E:a<e.Ac.l){V:D}{W:Ab}(k:Dw l V W (e.at a)){J:C A5}(xG:J.l<1000000){c:F}{r:G}(xb:Aw r c A5.c 2 J)(xm:AH h r)(o:Dx h c):∃j m,jj W9 56 4 [.n 0,.n a,.p x 0,c] r=jj W9 56 3 [.n a,.p x 0,j] m/\Aw m j A5.c 2 (J++Kf l (e.at a) a (e.at a).AS.l)/\AH h m/\Dx h j:=by
 have xc:=xg.Bc V W k.hb;have xH:=xc.Av;have xI:=k.AS;let⟨j,m,Y,xE,xe,xB⟩:=Dh (h:=(e.at a).AS.l) (f:=λb c q=>jj W9 56 4 [.n b,.n a,.p x 0,c] q) (g:=λb c q=>Aw q c A5.c 2 (J++Kf l (e.at a) a b)/\AH h q/\Dx h c)
  (λb c q xl xo=>by
   let⟨xb,xd,o⟩:=xo
   let⟨Z,xk⟩:=Bb xl
   let⟨S,xa⟩:=Bb (b:=W.Av) (a:=b) (by omega)
   have xf:=xc.Ax b S xa;have xF:=xf.some xg;have xi:=Cm xl;have d:=xh.ext xd;have T:=d.cv;let⟨xq,P,xs,xt,xu,xv,xw,xx,M⟩:=d.B0 E
   have R:=Cp (d.Db (.AS a) E);let⟨xn,Q,U⟩:=qY d E ⟨⟨V,k.ha,k.hb⟩,xa⟩ xk (k.CQ xf.A3) (by omega)
   have xA:IP l (e.at a) b=FH (e.at a) S Z:=by unfold IP;rw[k.ha,AdR,k.hb];simp only[];rw[xa,xk]
   have p:=xd.AI U;have N:=cv l (e.at a) a b;rw[xA]at N;have xJ:=Yo l (e.at a) a b;by_cases X:FH (e.at a) S Z=L
   .rw[Af X]at N;rw[X]at Q;have xz:Cb [(.n 0),(.n 0)] [(0,1),(1,1)] [.n a,.n b]=A (.S (A5.c ⟨a,b⟩)):=B;let⟨j,xC,xD,xK,xj,xp⟩:=FJ (f:=A5.c) (w:=2) (b:=⟨a,b⟩) (o:=.S (A5.c ⟨a,b⟩)) (h:=16) (λ_=>B) B B (xb.ext U) (DG (by grind))
    refine⟨j,xC,?_,?_,λH g=>⟨(xj.M (p.lv g) (o H g)).t (p.M g),xj.lv (p.lv g) (o H g)⟩,λH g=>xp H (p.lv g) (o H g)⟩;.rw[LL.2.2.2.2.2.1];simp only[QY,T,P,M,R,xi,LL.2.2.2.2.2.2.1,Q,xz,xD,LL.2.2.2.2.2.2.2,Bh (a:=b) (by omega)]
    .grind
   .have xr:FH (e.at a) S Z=Aa:=by grind
    rw[Ad X]at N;rw[xr]at Q;refine⟨c,xn,?_,by rw[N,Ad5];exact xb.ext U,p,o⟩;rw[LL.2.2.2.2.2.1];simp only[QY,T,P,M,R,xi,LL.2.2.2.2.2.2.1,Q,LL.2.2.2.2.2.2.2,Bh (a:=b) (by omega)])
  (b:=c) (a:=r) ⟨by rw[show Kf l (e.at a) a 0=[]from B,Ad5];grind,xm,o⟩
 have Y:jj W9 56 4 [.n 0,.n a,.p x 0,c] r=jj W9 56 4 [.n (e.at a).AS.l,.n a,.p x 0,j] m:=Y;have xy:=CA (e.at a).AS.l;have d:=xh.ext xe;have T:=d.cv;let⟨xq,P,xs,xt,xu,xv,xw,xx,M⟩:=d.B0 E
 have R:=Cp (d.Db (.AS a) E);refine⟨j,m,?_,xE,xe,xB⟩;rw[Y,LL.2.2.2.2.2.1];simp only[QY,T,P,M,R,xy]
theorem qG(E:BD l)(q:BZ z h l x e v u t)(p:CF l e):∃b d,W9 (pos 56) [.p x 0] h=A (b,d)/\Aw d b A5.c 2 (Br l e)/\AH h d/\Dx h b:=by
 have xe:=p.A7;have xc:∀a,a<=e.Ac.l->(JG l e.Ac a).l<=a*400:=λa=>by
  induction a with
  |zero=>intro _;exact CK _
  |succ a Y=>
   intro k;have:=Y (by omega);have r:(JG l e.Ac (a+1)).l=(JG l e.Ac a).l+(match e.Ac[a]?with|some c=>Kf l c a c.AS.l|none=>[]).l:=AdY;let⟨c,M⟩:=Bb (b:=e.Ac) (a:=a) (by omega)
   rw[M]at r;let⟨G,J,m⟩:=p.BC a c M
   have:=(E.Bc G J m.hb).Av;have:=m.AS;have:=Yo l c a c.AS.l;have r:(JG l e.Ac (a+1)).l=(JG l e.Ac a).l+(Kf l c a c.AS.l).l:=r;omega
 let⟨b,d,w,xa,f,U⟩:=Dh (h:=e.Ac.l) (f:=λa b g=>jj W9 56 2 [.p x 0,.n a,b] g) (g:=λa b g=>Aw g b A5.c 2 (JG l e.Ac a)/\AH h g/\Dx h b)
  (λa b g k S=>by
   let⟨xb,f,W⟩:=S
   have T:=Cm k;have j:=q.ext f;have P:=j.cv;have o:=Cp (j.Db .Ac);rw[Ad0]at o;let⟨G,J,m⟩:=p.BC a _ (Di k)
   have:=xc a (by omega);let⟨Q,y,Z,xf,R,V⟩:=rC E q k m (by omega) xb f W
   refine⟨Q,y,?_,?_,R,V⟩;.rw[LL.2.2.1];simp only[QY,P,o,T,LL.2.2.2.1];rw[Z,LL.2.2.2.2.1];simp only[↓H (Bh (a:=a) (by omega))]
   .show Aw y Q A5.c 2 (JG l e.Ac a++_);rw[Di k];grind)
  (b:=.sn) (a:=h) ⟨Aw.sn h,λN X=>⟨B,X⟩,λN _=>Cg N⟩
 have w:jj W9 56 2 [.p x 0,.n 0,.sn] h=jj W9 56 2 [.p x 0,.n e.Ac.l,b] d:=w;have xd:=CA e.Ac.l;have j:=q.ext f;have P:=j.cv;have o:=Cp (j.Db .Ac);rw[Ad0]at o;refine⟨b,d,AZ B B ?_,xa,f,U⟩;rw[LL.1,w,LL.2.2.1];simp only[QY,H (Eg x),LL.2.1, *]
end
theorem Xg{a:AK}{b:D}{c:N}(h:c.Ak=0\/(GQ a b).Ak≠0):FG a b c=(a,Aa):=Af h
theorem gu{a:AK}{b:D}{c:N}(h:¬(c.Ak=0\/(GQ a b).Ak≠0)):FG a b c=({a with An:=a.An.set b c},L):=Ad h
theorem LY{e:Ai}{a:D}(b:a<e.Ac.l):e.AJ a (e.at a)=e:=NC (Di b)
section
variable{t:EC} {h:G} {e:Ai} {w:C (C (C K))} {v:K} {u:T->Prop}
theorem aj(g:Bj t h e w v u){a b:D}(i:a<e.Ac.l)(P:b<(e.at a).An.l)(d:N):∃m,W9 (pos 77) [.p t.x 0,.n a,.n b,.S (N.c d)] h=A (.b (FG (e.at a) b d).2,m)/\Bj t m (e.AJ a (FG (e.at a) b d).1) w v u/\Bo u h m:=by
 let⟨xj,n,xd,xc,f,s,xh,xi⟩:=box h (.I 2 (N.c d))
 have q:=g.ext f;have r:=q;let⟨R,z,j,M⟩:=q
 let⟨p,x⟩:=Bb P
 have xm:=j.cv;let⟨k,xe,S,T,V,W,X,Y,Z⟩:=j.B0 i
 let⟨l,J,xf,Q,xl,xo,E,y⟩:=j.Yi i x d
 have xb:GQ (e.at a) b=p:=by unfold GQ;rw[x];rfl
 have xg:=s;have xn:=s;have xa:Bl 0 [.p l (b*2)]=A (.p l (b*2+0)):=by rw[EG]
 have xk:AM n [.p l (b*2+0)]=A (.i .u8 p.Ak):=Q;by_cases F:d.Ak=0;.rw[Xg (.i F),LY i];refine⟨n,AZ B B ?_,r,λo c=>f.M (g.C4 c)⟩;rw[Xy.1];simp only[QY,H (Eg t.x),H (Ha k a 4), *]
 .by_cases U:p.Ak=0
  .rw[gu (by grind)];let⟨G,I⟩:=y.Fp (by grind) M
   refine⟨J,AZ B B ?_,⟨R,z,E,G⟩,λo c=>(I o c).t (f.M (g.C4 c))⟩;rw[Xy.1];simp only[QY,H (Eg t.x),H (Ha k a 4),Xy.2, *]
  .rw[Xg (.j (by grind)),LY i];refine⟨n,AZ B B ?_,r,λo c=>f.M (g.C4 c)⟩;rw[Xy.1];simp only[QY,H (Eg t.x),H (Ha k a 4), *]
end
def NN(e:Ai)(f d:D)(b:BA)(c:K):Prop:=(b=EQ/\c=0)\/(b.is=L/\∃a,CW e a f d/\(e.at a).Az=b.Az/\c=if b.next=L then-(a:K)-1 else(a:K)+1)
structure CJ(e:Ai)(t:C (C (C K))):Prop where
 A7:t.l=e.Ac.l
 Ga:∀(a:D) b,t[a]? =A b->b.m List.length=(e.at a).A4.m List.length
 B0:∀(a c d:D) b f g,t[a]? =A b->b[c]? =A f->f[d]? =A g->NN e a c (Ek (e.at a) c d) g
theorem t_{f g:Type}{x:C (C f)}{d:C (C g)}(h:d.m List.length=x.m List.length){a:D}{b:C f}(i:x[a]? =A b):∃c,d[a]? =A c/\b.l=c.l:=by
 have:(x.m List.length)[a]? =A b.l:=by grind
 grind
theorem CJ.Cc{e:Ai}{t:C (C (C K))}(j:CJ e t){a d f:D}(r:a<e.Ac.l)(h:G6 (e.at a).A4 d f):∃c b g,t[a]? =A c/\c[d]? =A b/\b[f]? =A g/\NN e a d (Ek (e.at a) d f) g:=by
 let⟨c,k⟩:=Bb (b:=t) (a:=a) (by rw[j.A7];grind)
 let⟨s,o,p⟩:=h
 let⟨b,m,q⟩:=t_ (j.Ga a c k) o
 let⟨g,n⟩:=Bb (b:=b) (a:=f) (by omega)
 exact⟨c,b,g,k,m,n,j.B0 a d f c b g k m n⟩
def XQ(b:Ah)(a:D):K:=if b=L then-(a:K)-1 else(a:K)+1
theorem NN.Zw{l:C Ab}{e:Ai}(q:WF l e){a g d:D}(p:CW e a g d){c:BA}{i:K}(s:NN e g d c i)(f:Ah):i=XQ f a↔c=⟨(e.at a).Az,f,L⟩:=by
 rcases s with⟨rfl,rfl⟩|⟨y,b,z,m,n⟩
 .constructor;.intro h;unfold XQ at h;omega
  .intro h;cases(AdW BA.is h)
 .let⟨o,x,r⟩:=c
  have m:(e.at b).Az=o:=m;have n:i=if x=L then-(b:K)-1 else b+1:=n;subst(y:r=L);unfold XQ;constructor;.grind
  .intro h;have j:=AdW BA.Az h;have k:=AdW BA.next h;have j:o=(e.at a).Az:=j;have k:x=f:=k;have:b=a:=q.KN a b g d p z (by omega);grind
theorem NN.kK{e:Ai}{f d:D}{a:BA}{b:K}(c:NN e f d a b):b=0↔¬a.is=L:=by
 rcases c with⟨rfl,rfl⟩|⟨i,g,j,k,m⟩;.exact⟨λ_ h=>(by cases h),Om⟩
 grind
theorem NN.Hf{e d:Ai}{c b:D}{f:BA}{g:K}(i:NN e c b f g)(o:∀a,CW e a c b->CW d a c b/\(d.at a).Az=(e.at a).Az):NN d c b f g:=by
 rcases i with h|⟨j,a,m,n,k⟩;.exact .i h
 .exact .j ⟨j,a,P,by grind,k⟩
theorem CJ.AJ{e:Ai}{t:C (C (C K))}(g:CJ e t){b:D}{c:AK}(m:b<e.Ac.l)(j:DQ (e.at b) c)(G:c.A4=(e.at b).A4):CJ (e.AJ b c) t:=by
 have H:∀{d i f},CW e d i f->CW _ d i f/\((e.AJ b c).at d).Az=(e.at d).Az:=λ{d i f} o=>by
  unfold CW at o⊢;rw[Ej,E4 m];split;.rename_i z;subst z;rw[j.AP,j.Ax,j.Az];grind
  omega
 have k:∀a,((e.AJ b c).at a).A4=(e.at a).A4:=λa=>by rw[E4 m];grind
 exact⟨by rw[Ej];exact g.A7,λa n y=>by rw[k];exact g.Ga a _ y,λp f a n E F q r s=>by unfold Ek;rw[k];exact(g.B0 p f a n E F q r s).Hf P⟩
theorem CJ.M8{e:Ai}{t:C (C (C K))}(k:CJ e t){g a d f:D}(F:a<e.Ac.l){I:N}{o:Ah}{q:C (C K)}{p:C K}{V:K}(n:t[a]? =A q)(z:q[d]? =A p)(M:p[f]? =A V)(W:CW e g a d)(h:G6 (e.at a).A4 d f):CJ (e.AJ a {e.at a with A4:=CP (e.at a).A4 d f ⟨(e.at g).Az,o,L⟩,AG:=CP (e.at a).AG d f I}) (t.set a (q.set d (p.set f (XQ o g)))):=by
 have Z:=(AdN.1 n).1;have Y:=(AdN.1 M).1;have R:DQ (e.at a) {e.at a with A4:=CP (e.at a).A4 d f ⟨(e.at g).Az,o,L⟩,AG:=CP (e.at a).AG d f I}:=⟨B,B,B,B,B,TJ _ _ _ _,B,TJ _ _ _ _⟩;generalize X:({e.at a with A4:=CP (e.at a).A4 d f ⟨(e.at g).Az,o,L⟩,AG:=CP (e.at a).AG d f I})=m at R;have E:m.A4=CP (e.at a).A4 d f ⟨(e.at g).Az,o,L⟩:=by grind
 have xa:∀{r b c},CW e r b c->CW (e.AJ a m) r b c/\((e.AJ a m).at r).Az=(e.at r).Az:=λ{r b c} S=>by unfold CW at S⊢;rw[Ej,E4 F];grind
 refine⟨by rw[Aed,Ej];exact k.A7,λb H j=> ?_,λb c i H Q J j y s=> ?_⟩
 .rw[E4 F];rcases Ik n j with⟨rfl,rfl⟩|⟨G,j⟩
  .rw[Af B,R.A4,<-k.Ga b q n];refine AeP λU=> ?_;rw[Aeo,Aeo];by_cases T:U=d;.subst T;rw[Aex (AdN.1 z).1,z];show A (p.set f _).l=A p.l;rw[Aed]
   .grind
  .rw[Ad G];exact k.Ga b H j
 .rw[E4 F];rcases Ik n j with⟨rfl,rfl⟩|⟨G,j⟩
  .rw[Af B];rcases Ik z y with⟨rfl,rfl⟩|⟨xb,y⟩
   .rcases Ik M s with⟨rfl,rfl⟩|⟨xc,s⟩
    .right;have:Ek m c i=⟨(e.at g).Az,o,L⟩:=by rw[V4,E];exact T_ h
     rw[this];exact⟨B,g,P,P,B⟩
    .have:Ek m c i=Ek (e.at b) c i:=by
      rw[V4,V4,E];exact Kn Om
     rw[this]
     exact(k.B0 b c i q p J n z s).Hf P
   .have:Ek m c i=Ek (e.at b) c i:=by
     rw[V4,V4,E];exact Kn Om
    rw[this]
    exact(k.B0 b c i q Q J n y s).Hf P
  .rw[Ad G];exact(k.B0 b c i H Q J j y s).Hf P
section
variable{w:T->Bm} {h:G} {l:C Ab} {x:T} {e:Ai} {t:C (C (C K))} {v:K} {u:Bm->F}
theorem BZ.gs(i:BZ w h l x e t v u){c:D}(n:c<e.Ac.l)(k:C (C BA)):BZ w h l x (e.AJ c {e.at c with A4:=k}) t v u where
 M:=i.M
 lv:=i.lv
 B3:=i.B3
 tg:=i.tg
 Db:=λp=>by
  have f:∀(a:D){r:Type}(j:AK->r),(j _=j _)->j ((e.AJ c {e.at c with A4:=k}).at a)=j (e.at a):=λa r j h=>by
   rw[E4 n];split;.rename_i m;subst m;exact h
   .rfl
  have d:=i.Db p
  cases p with
  |Ac=>show Aw h _ _ 7 _;rw[(funext λa=>by unfold DM;rw[f a (λb=>b.Bc) B,f a (λb=>b.AP) B,f a (λb=>b.Ax) B,f a (λb=>b.Az) B]:DM u _=DM u e),Ej];exact d
  |An a=>intro g;rw[Ej]at g;rw[f a (λb=>b.An) B];exact d g
  |AG a=>intro g;rw[Ej]at g;rw[f a (λb=>b.AG) B];exact d g
  |AD a z=>intro H o;rw[f a (λb=>b.AG) B]at o;exact d H o
  |AS a=>intro g;rw[Ej]at g;rw[f a (λb=>b.AS) B];exact d g
  |Bn=>exact d
  |A4 a=>exact d
  |B1 a z=>exact d
  |Am=>
   have y:(e.AJ c {e.at c with A4:=k}).Ac.f GO=e.Ac.f GO:=by
    have:(e.AJ c {e.at c with A4:=k}).Ac.m GO=e.Ac.m GO:=by
     refine AeP λq=> ?_;rw[Aeo,Aeo];show((e.Ac.set c _)[q]?).map GO=_;by_cases m:q=c;.subst m;rw[Aex n,Di n];rfl
     grind
    grind
   show Aw h _ _ 1 (e.AJ c {e.at c with A4:=k}).Ac;rcases(d:Aw h _ _ 1 _)with⟨E,F⟩|⟨s,m,E,F,J,G⟩;.grind
   .exact .j ⟨s,m,by rw[Ej];grind,by rw[Ej];grind,by rw[Ej,y];omega,G⟩
  |Ex=>trivial
  |C5=>trivial
  |BC I=>trivial
end
theorem Ru{g:Type}{h:G}{a:F}{b:g->C _}{f:D}{c:C _}(d:Aw h a b f c):Fl a=L:=by rcases d with⟨rfl,_⟩|⟨i,j,rfl,_⟩<;>rfl
theorem Si{k:T->Bm}{h:G}{j:C Ab}{l:T}{e:Ai}{u:C (C (C K))}{y:K}{d:Bm->F}(b:BZ k h j l e u y d){a:D}(c:a<e.Ac.l):BU (DM d e a)=L:=by have f:=Ru (b.Db (.An a) c);have g:=Ru (b.Db (.AG a) c);have i:=Ru (b.Db (.AS a) c);rw[DJ];show List.all [_,_,_,_,_,_,_] Fl=L;simp only[Aer,f,g,i];rfl
theorem BZ.Sh{k:T->Bm}{h:G}{j:C Ab}{l:T}{e:Ai}{u:C (C (C K))}{y:K}{a:Bm->F}(i:BZ k h j l e u y a){b:D}(g:b<e.Ac.l):∃c,AR 7 [a .Ac,.n b]=A (.p c (b*7))/\h.AL c (b*7) 7=A (DM a e b):=by
 let⟨c,d⟩:=CD (f:=DM a e) (w:=7) (λ_=>B) (i.Db .Ac) (F9 g)
 exact⟨c,d.ia,d.AL (f:=DM a e) (w:=7) (λ_=>B) (F9 g)⟩
theorem du{a:AK}{c d:D}{f:N}{b:BA}(h:Ek a c d=b):CZ a c d f b=(a,Aa,0):=Af h
theorem ds{a:AK}{b c:D}{g:N}{d:BA}(h:Ek a b c≠d)(f:(Ek a b c).is=L):CZ a b c g d=(a,Aa,6):=by unfold CZ;rw[Ad h,Af f]
theorem dt{a:AK}{b c:D}{f:N}{d:BA}(h:Ek a b c≠d)(g:¬(Ek a b c).is=L):CZ a b c f d=({a with A4:=CP a.A4 b c d,AG:=CP a.AG b c f},L,0):=by unfold CZ;rw[Ad h,Ad g]
section
variable{t:EC} {h:G} {e:Ai} {u:C (C (C K))} {y:K} {v:T->Prop}
theorem pj(T:Bj t h e u y v)(x:CJ e u)(Y:BY t.l e){f c g i:D}(k:CW e f c g)(d:c<e.Ac.l)(xF:G6 (e.at c).AG g i)(xi:G6 (e.at c).A4 g i)(j:N):(j.Ak=0->∃l,W9 (pos 173) [.p t.x 0,.n f,.n i,.S (N.c j)] h=A (.b Aa,l)/\Bj t l e u y v/\Bo v h l)/\(j.Ak≠0->∃l xg,W9 (pos 173) [.p t.x 0,.n f,.n i,.S (N.c j)] h=A (.b (CZ (e.at c) g i j ⟨(e.at f).Az,Aa,L⟩).2.1,l)/\Bj t l (e.AJ c (CZ (e.at c) g i j ⟨(e.at f).Az,Aa,L⟩).1) xg (if(CZ (e.at c) g i j ⟨(e.at f).Az,Aa,L⟩).2.2≠0 then 6 else y) v/\CJ (e.AJ c (CZ (e.at c) g i j ⟨(e.at f).Az,Aa,L⟩).1) xg/\Bo v h l):=by
 have xk:=k.1;have x5:=Y.W.sh.A7;let⟨xo,o,x6,x4,Q,xh,xl,yh⟩:=box h (.I 2 (N.c j))
 have I:∀c,v c->Lv h c:=λc d=>T.C4 d;have xu:=T.V Q;let⟨xO,M,z,xG⟩:=xu
 let⟨xP,ya,yr⟩:=z.Sh xk
 have ys:=z.cv;let⟨m,p,xK,xI,w,G,yf,yi⟩:=box o (.I 7 (DM M e f))
 let⟨yD,yw⟩:=EL o (b:=7) [.n 0,.n 0,.n 0,.n 0,.sn,.sn,.sn] (c:=DM M e f) xK xI B (Si z xk)
 have J:=Bj.V ⟨xO,M,z,xG⟩ w;have ye:=(w.M xl).t xh;have s:=Q.AI w;have x3:=F2 (a:=f) (b:=1) (by omega) (by omega);refine⟨λxC=>⟨p,AZ B B ?_,J.sub λc d=>.i (.i d),λc d=>s.M (I c d)⟩,λxC=> ?_⟩;.rw[Nl.1];simp only[QY,H (Eg t.x), *]
 .have xv:=J;let⟨xp,X,P,xj⟩:=J
  let⟨yt,yn,xq,xc,xd,xe,xf⟩:=x.Cc d xi
  let⟨yg,xn,xM⟩:=xF
  let⟨yA,xN⟩:=Bb xM
  have xr:ES (ES v h o) o p xo:=by grind
  have R:ES (ES v h o) o p m:=by grind
  have yB:=P.M;have yj:p.Ap m 1=A (.n c):=by rw[Ay G];show A (F.n (e.at f).AP)=_;rw[k.2.1]
  have yl:p.Ap m 2=A (.n g):=by rw[Ay G];show A (F.n (e.at f).Ax)=_;rw[k.2.2]
  let⟨xQ,xR,xU,U,x7,yo,x8,yp,x9,yq,yx,E,xw⟩:=P.jN xc xd xe (f+1)
  have q:=xw.Fp (by grind) xj;have xb:=xf.Zw Y.W k Aa;have xE:=xf.kK;by_cases Z:xq=f+1;.rw[du (xb.1 Z),LY d,Ad (λr=>r B)];refine⟨p,u,AZ B B ?_,xv.sub λc d=>.i (.i d),x,λc d=>s.M (I c d)⟩;rw[Nl.1];simp only[QY,H (Eg t.x),Nl.2.1, *]
  .have xm:=λr=>Z (xb.2 r);by_cases xa:xq=0
   .rw[dt xm (xE.1 xa),Ad (λr=>r B)];have xH:=q.1;have xV:¬(0=(f:K)+1):=by omega
    have yC:=E.cv;have yk:U.Ap m 1=A (.n (c:K)):=by rw[Ay ((q.2 m R).t G)];show A (F.n (e.at f).AP)=_;rw[k.2.1]
    have ym:U.Ap m 2=A (.n (g:K)):=by rw[Ay ((q.2 m R).t G)];show A (F.n (e.at f).Ax)=_;rw[k.2.2]
    have yv:=BB ((q.2 xo xr).t ((w.M xl).t xh));let⟨xB,yc,xW,xX,xY,xZ,x0,x1,x2⟩:=E.B0 d
    let⟨xT,yd,yu⟩:=E.Ga d xn
    let⟨xS,xs,yb,_,_,yy,xz,xx⟩:=E.PP d xn xN j
    have V:=xx.Fp (by grind) xH;have xJ:c<(e.AD c g i j).Ac.l:=by unfold Ai.AD;rw[Ej];grind
    have S:=xz.gs xJ (CP (e.at c).A4 g i ⟨(e.at f).Az,Aa,L⟩);have xD:(e.AD c g i j).AJ c {(e.AD c g i j).at c with A4:=CP (e.at c).A4 g i ⟨(e.at f).Az,Aa,L⟩}=e.AJ c {e.at c with A4:=CP (e.at c).A4 g i ⟨(e.at f).Az,Aa,L⟩,AG:=CP (e.at c).AG g i j}:=by unfold Ai.AD;rw[LX,HE d];rfl
    rw[xD]at S;refine⟨xs,_,AZ B B ?_,⟨xp,X,S,λc d=>V.1 c (.i (.i d))⟩,x.M8 d xc xd xe k xi,λc d=>(V.2 c (.i (.i d))).t ((q.2 c (.i (.i d))).t (s.M (I c d)))⟩;rw[Nl.1];simp only[QY,H (Eg t.x),Nl.2.1,Nl.2.2.1,Nl.2.2.2,H (Ha xB c 5), *]
   .have xL:(Ek (e.at c) g i).is=L:=by grind
    rw[ds xm xL,LY d,Af (by grind)];let⟨xt,yz,xA,xy⟩:=P.RG 6
    have W:=xy.Fp (by grind) xj;refine⟨xt,u,AZ B B ?_,⟨xp,X,xA,λc d=>W.1 c (.i (.i d))⟩,x,λc d=>(W.2 c (.i (.i d))).t (s.M (I c d))⟩;rw[Nl.1];simp only[QY,H (Eg t.x),Nl.2.1,Nl.2.2.1,xa, *]
end
section
variable{t:EC} {h:G} {e:Ai} {v:C (C (C K))} {w:K} {u:T->Prop}
theorem pk(S:Bj t h e v w u)(q:CJ e v)(U:BY t.l e){d c f g:D}(k:CW e d c f)(i:c<e.Ac.l)(xv:G6 (e.at c).AG f g)(xc:G6 (e.at c).A4 f g)(j:N):∃I xb,W9 (pos 174) [.p t.x 0,.n d,.n g,.S (N.c j)] h=A (.b (CZ (e.at c) f g j ⟨(e.at d).Az,L,L⟩).2.1,I)/\Bj t I (e.AJ c (CZ (e.at c) f g j ⟨(e.at d).Az,L,L⟩).1) xb (if(CZ (e.at c) f g j ⟨(e.at d).Az,L,L⟩).2.2≠0 then 6 else w) u/\CJ (e.AJ c (CZ (e.at c) f g j ⟨(e.at d).Az,L,L⟩).1) xb/\Bo u h I:=by
 have xe:=k.1;have x1:=U.W.sh.A7;let⟨xE,o,x2,x0,M,xZ,ya,yd⟩:=box h (.I 2 (N.c j))
 have xz:∀c,u c->Lv h c:=λc i=>S.C4 i;have xm:=S.V M;let⟨xF,z,r,xw⟩:=xm
 let⟨xI,x6,yn⟩:=r.Sh xe
 have yo:=r.cv;let⟨l,m,xB,xy,Q,x,yb,ye⟩:=box o (.I 7 (DM z e d))
 let⟨yz,ys⟩:=EL o (b:=7) [.n 0,.n 0,.n 0,.n 0,.sn,.sn,.sn] (c:=DM z e d) xB xy B (Si r xe)
 have T:Bj t m e v w (ES (ES u h o) o m):=Bj.V ⟨xF,z,r,xw⟩ Q;have xj:=M.AI Q;have xX:=bq (a:=d) (by unfold Dk;omega);have xW:=FA (a:= -d) (b:=1) (by omega) (by omega);let⟨xh,E,G,xd⟩:=T
 let⟨yp,yj,xi,X,Y,Z,xa⟩:=q.Cc i xc
 let⟨yc,xg,xC⟩:=xv
 let⟨yw,xD⟩:=Bb xC
 have yx:=G.M;have yf:m.Ap l 1=A (.n c):=by rw[Ay x];show A (F.n (e.at d).AP)=_;rw[k.2.1]
 have yh:m.Ap l 2=A (.n f):=by rw[Ay x];show A (F.n (e.at d).Ax)=_;rw[k.2.2]
 let⟨xJ,xK,xN,p,x3,yk,x4,yl,x5,ym,yt,s,xn⟩:=G.jN X Y Z (-d-1)
 have y:=xn.Fp (by grind) xd;have W:=xa.Zw U.W k L;have xY:=xa.kK;by_cases V:xi= -d-1;.rw[du (W.1 V),LY i,Ad P];refine⟨m,v,AZ B B ?_,T.sub P,q,λc i=>xj.M (xz c i)⟩;rw[SV.1];simp only[QY,H (Eg t.x), *]
 .have xf:Ek (e.at c) f g≠⟨(e.at d).Az,L,L⟩:=λJ=>V (W.2 J);by_cases xt:xi=0
  .rw[dt xf P,Ad (λJ=>J B)];have xx:=y.1;have xO:¬(0= -(d:K)-1):=by omega
   have yy:p.Ap t.x 1=A (E .Ac):=s.cv;have yg:p.Ap l 1=A (.n c):=by rw[Ay ((y.2 l P).t x)];show A (F.n (e.at d).AP)=_;rw[k.2.1]
   have yi:p.Ap l 2=A (.n (f:K)):=by rw[Ay ((y.2 l P).t x)];show A (F.n (e.at d).Ax)=_;rw[k.2.2]
   have yr:p.AL xE 0 2=A (N.c j):=BB P;let⟨xs,x8,xP,xQ,xR,xS,xT,xU,xV⟩:=s.B0 i
   let⟨xM,x9,yq⟩:=s.Ga i xg
   let⟨xL,xk,x7,_,_,yu,xq,xo⟩:=s.PP i xg xD j
   have xG:=xo.Fp (by grind) xx;have xA:c<(e.AD c f g j).Ac.l:=by unfold Ai.AD;rw[Ej];grind
   have R:=xq.gs xA (CP (e.at c).A4 f g ⟨(e.at d).Az,L,L⟩);have xu:(e.AD c f g j).AJ c {(e.AD c f g j).at c with A4:=CP (e.at c).A4 f g ⟨(e.at d).Az,L,L⟩}=e.AJ c {e.at c with A4:=CP (e.at c).A4 f g ⟨(e.at d).Az,L,L⟩,AG:=CP (e.at c).AG f g j}:=by unfold Ai.AD;rw[LX,HE i];rfl
   rw[xu]at R;refine⟨xk,_,AZ B B ?_,⟨xh,E,R,P⟩,q.M8 i X Y Z k xc,P⟩;rw[SV.1];simp only[QY,H (Eg t.x),SV.2.1,SV.2.2,H (Ha xs c 5), *]
  .rw[ds xf P,LY i,Af (by grind)];let⟨xl,yv,xr,xp⟩:=G.RG 6
   have xH:=xp.Fp (by grind) xd;refine⟨xl,v,AZ B B ?_,⟨xh,E,xr,P⟩,q,P⟩;rw[SV.1];simp only[QY,H (Eg t.x),SV.2.1,xt, *]
theorem kr{a:D}(o:Bj t h e v w u)(G:e.Ac.l<=400)(d c f:K)(l:a<e.Ac.l):∃j,jj W9 175 4 [.n a,.p t.x 0,.n d,.n c,.n f] h=(if(e.at a).AP=d/\(e.at a).Ax=c/\(e.at a).Az=f/\0<a then A (.n a,j)else jj W9 175 3 [.n a,.p t.x 0,.n d,.n c,.n f] j)/\AH h j:=by
 let⟨U,k,g,F⟩:=o
 let⟨E,I,S⟩:=g.Sh l
 have T:=g.cv;let⟨R,b,z,y,m,i,J,M⟩:=box h (.I 7 (DM k e a))
 let⟨W,V⟩:=EL h (b:=7) [.n 0,.n 0,.n 0,.n 0,.sn,.sn,.sn] (c:=DM k e a) z y B (Si g l)
 have N:b.Ap _ 1=A _:=Ay i 1;have P:b.Ap _ 2=A _:=Ay i 2;have Q:b.Ap _ 3=A (.n (e.at a).Az):=Ay i 3;refine⟨b,?_,m⟩;rw[UT.2.2.2.1];by_cases p:(e.at a).AP=d
 .by_cases q:(e.at a).Ax=c
  .by_cases r:(e.at a).Az=f
   .by_cases s:0<a
    .rw[Af ⟨p,q,r,s⟩];have x:(a:K)>0:=by omega
     simp only[QY,H (Eg t.x), *]
    .rw[Ad Om];have x:¬(a:K)>0:=by omega
     simp only[QY,H (Eg t.x), *]
   .rw[Ad Om];simp only[QY,H (Eg t.x), *]
  .rw[Ad Om];simp only[QY,H (Eg t.x), *]
 .rw[Ad Om];simp only[QY,H (Eg t.x), *]
theorem pl(b:Bj t h e v w u)(E:e.Ac.l<=400)(f d g:K){c:D}(Q:c<e.Ac.l)(R:(e.at c).AP=f/\(e.at c).Ax=d/\(e.at c).Az=g/\0<c)(U:∀a,a<c->¬((e.at a).AP=f/\(e.at a).Ax=d/\(e.at a).Az=g/\0<a)):∃z,W9 (pos 175) [.p t.x 0,.n f,.n d,.n g] h=A (.n c,z)/\AH h z:=by
 have J:∀{b:G}(_:Bj t b e v w u),∃m,b.Ap t.x 1=A m/\DX [m]=A (.n e.Ac.l):=λ{b} T=>by
  let⟨Y,N,y,W⟩:=T
  have k:=Cp (y.Db .Ac);rw[Ad0]at k;exact⟨N .Ac,y.cv,k⟩
 let⟨_,p,r,j⟩:=Dh (h:=c) (f:=λa _ b=>jj W9 175 2 [.p t.x 0,.n f,.n d,.n g,.n a] b) (g:=λa _ b=>AH h b)
  (λa Z V P j=>by
   have q:a<(e.Ac.l:K):=by omega
   let⟨m,x,k⟩:=J (b.ext j)
   let⟨p,l,o⟩:=kr (b.ext j) E f d g (a:=a) (by omega)
   rw[Ad (U a P)]at l;refine⟨(),p,?_,j.AI o⟩;show jj W9 175 2 _ _=jj W9 175 2 _ _;rw[UT.2.2.1];simp only[QY,x,k,q];rw[l,UT.2.2.2.2];simp only[↓H (Bh (a:=a) (by omega))])
  (b:=()) (a:=h) (λX S=>⟨B,S⟩)
 have r:jj W9 175 2 [.p t.x 0,.n f,.n d,.n g,.n 0] h=jj W9 175 2 [.p t.x 0,.n f,.n d,.n g,.n c] p:=r;let⟨m,x,k⟩:=J (b.ext j)
 have q:c<(e.Ac.l:K):=by omega
 let⟨M,l,o⟩:=kr (b.ext j) E f d g Q
 rw[Af R]at l;refine⟨M,AZ B B ?_,j.AI o⟩;rw[UT.1,r,UT.2.2.1];simp only[QY,x,k,q];grind
end
structure L6(z:G)(n:D)(w:T->Bm)(h:G)(q:T)(c:AK)(y:C (C K))(u s t m:F)(p r:D->F):Prop where
 M:h.M q=A (.I 7 [.n c.Bc,.n c.AP,.n c.Ax,.n c.Az,u,s,t])
 lv:Lv h q
 B3:w q=.BC n
 An:Aw h u N.c 2 c.An
 Fr:Tg w u (.An n)
 AG:M6 N.c 2 w h (.AG n) (.AD n) s p c.AG
 AS:Aw h t Be 1 c.AS
 Fq:Tg w t (.AS n)
 Kx:M6 Be 1 w h (.A4 n) (.B1 n) m r y
 BO:∀a,Lv z a->w a=.C5
 ext:AH z h
section
variable{z:G} {n:D} {w:T->Bm} {h:G} {q:T} {c:AK} {y:C (C K)} {u s t m:F} {p r:D->F}
theorem L6.Ax(f:L6 z n w h q c y u s t m p r){j:D}(xs:j<=1000)(xj:c.AG.l<1000000)(xk:y.l<1000000):∃P xc k x l,Gd [(.i .u8 0),(.n 0)] 2 16 h.next [.n j,.n j]=A (P,xc)/\(∀(H:F×G->R),((Dq 1 1 (h.V P).next [xc]).b λa=>(DN 1 24 (G.V (h.V P) a.1) [s,a.2]).b H)=H (k,x))/\AX 1 x [.p q 5,k]=A (AC,l)/\
  ∃W xd S E xr xp xh,Gd [(.n 0)] 1 8 l.next [.n j,.n j]=A (W,xd)/\(∀(H:F×G->R),((Dq 1 1 (l.V W).next [xd]).b λa=>(DN 1 24 (G.V (l.V W) a.1) [m,a.2]).b H)=H (S,E))/\
   L6 z n xr E q {c with AG:=c.AG++[BG j AO]} (y++[BG j 0]) u k t S xp xh:=by
 let⟨k,x,Y,xm,V,T,J⟩:=f.AG.Es (by grind) (by grind) xj (H:=.I (j*2) ((BG j AO).f N.c)) (Tu h j) NU B B
 have xi:=(T q f.lv (by rw[f.B3];intro g;cases g)).1.t f.M
 have xt:=(T q f.lv (by rw[f.B3];intro g;cases g)).2
 have Z:=Gx (d:=5) (a:=k) xi (by omega) (by omega) (Cr V.o).1 (Cr V.o).2
 have xg:Dg 5 [k] [.n c.Bc,.n c.AP,.n c.Ax,.n c.Az,u,s,t]=[.n c.Bc,.n c.AP,.n c.Ax,.n c.Az,u,k,t]:=B
 rw[xg]at Z
 have X:∀a,a≠q->(x.set q (.I 7 [.n c.Bc,.n c.AP,.n c.Ax,.n c.Az,u,k,t])).M a=x.M a:=λa e=>by rw[AN,Ad e]
 have xa:(x.set q (.I 7 [.n c.Bc,.n c.AP,.n c.Ax,.n c.Az,u,k,t])).M q=A (.I 7 [.n c.Bc,.n c.AP,.n c.Ax,.n c.Az,u,k,t]):=by rw[AN,Af B]
 have xo:∀a,Lv (x.set q (.I 7 [.n c.Bc,.n c.AP,.n c.Ax,.n c.Az,u,k,t])) a=Lv x a:=by grind
 refine⟨_,_,k,x,_,Ti h.next j (by omega),xm,Z,?_⟩
 generalize x.set q (.I 7 [.n c.Bc,.n c.AP,.n c.Ax,.n c.Az,u,k,t])=l at X xa xo
 have U:∀a,Lv h a->w a≠.AG n->w a≠.BC n->l.M a=h.M a/\Lv l a:=λa e d P=>⟨(X a (λg=>P (by rw[g];exact f.B3))).t (T a e d).1,by grind⟩
 have i:L6 z n Y l q {c with AG:=c.AG++[BG j AO]} y u k t m (BW p c.AG.l (.Z h.next 0 j (j+1) 2)) r:={
  M:=xa
  lv:=by grind
  B3:=(J q f.lv).t f.B3
  An:=f.An.Ar λa e d=>U a e (by rw[f.Fr a d];intro g;cases g) (by rw[f.Fr a d];intro g;cases g)
  Fr:=λa d=>(J a (f.An.Cz d)).t (f.Fr a d)
  AG:=V.Ar λa e d=>⟨X a (λg=>by subst g;rw[(J a f.lv).t f.B3]at d;rcases d with d|⟨xl,d⟩<;>cases d),by grind,B⟩
  AS:=f.AS.Ar λa e d=>U a e (by rw[f.Fq a d];intro g;cases g) (by rw[f.Fq a d];intro g;cases g)
  Fq:=λa d=>(J a (f.AS.Cz d)).t (f.Fq a d)
  Kx:=f.Kx.Ar λa e d=>by
   have xu:w a≠.AG n/\w a≠.BC n:=by rcases d with d|⟨xl,d⟩<;>rw[d]<;>grind
   grind
  BO:=λa e=>(J a (f.ext.lv e)).t (f.BO a e)
  ext:=λa e=>by have xq:=f.BO a e;have:=U a (f.ext.lv e) (by grind) (by grind);exact⟨this.1.t (f.ext.M e),this.2⟩}
 let⟨S,E,xb,xn,xf,I,Q⟩:=i.Kx.Es (by grind) (by grind) xk (H:=.I (j*1) ((BG j 0).f Be)) (bN l j) NU B B
 refine⟨_,_,S,E,xb,BW p c.AG.l (.Z h.next 0 j (j+1) 2),BW r y.l (.Z l.next 0 j (j+1) 1),bn l.next j (by omega),xn,?_⟩
 have xe:∀a,Lv l a->Y a≠.A4 n->E.M a=l.M a/\Lv E a/\xb a=Y a:=by grind
 exact{
  M:=(I q i.lv (by rw[i.B3];intro g;cases g)).1.t i.M
  lv:=(I q i.lv (by rw[i.B3];intro g;cases g)).2
  B3:=(Q q i.lv).t i.B3
  An:=i.An.Ar λa e d=>I a e (by rw[i.Fr a d];intro g;cases g)
  Fr:=λa d=>(Q a (i.An.Cz d)).t (i.Fr a d)
  AG:=i.AG.Ar λa e d=>xe a e (by grind)
  AS:=i.AS.Ar λa e d=>I a e (by rw[i.Fq a d];intro g;cases g)
  Fq:=λa d=>(Q a (i.AS.Cz d)).t (i.Fq a d)
  Kx:=xf
  BO:=λa e=>(Q a (i.ext.lv e)).t (i.BO a e)
  ext:=λa e=>by have xq:=i.BO a e;have:=I a (i.ext.lv e) (by grind);exact⟨this.1.t (i.ext.M e),this.2⟩}
end
