/- Part of the proof. -/
import Derived.Test.YtbmnfifnenajjaaGreatMbk
set_option linter.all false
noncomputable section
open Option renaming some->A,getD->Option.g,bind->Option.b
open _root_ renaming rfl->B,List->C,Nat->D,Int->K,if_neg->Ad,if_pos->Af,Bool->Ah,absurd->BF
open Bool renaming true->L,false->Aa
open List renaming replicate->BG,length->List.l,map->List.m,take->List.t,toArray->List.a
open Nat renaming le_refl->CK
open Go.IntKind renaming i64->Go.IntKind.n
open Array renaming toList->Array.l
open Eq renaming trans->Eq.t,symm->Eq.s
open Or renaming inl->Or.i,inr->Or.j
open Int renaming toNat->Int.n
namespace Go.Proofs.YtbmnfifnenajjaaGreat
open Go.Fg
def ch{d:Type}(c b:D)(a:d):((BG c a)[b]?).g a=a:=by grind
def T9{h b:Type}(f:C b)(c:b->D)(a:h)(d e:D):E3 (f.m λg=>BG (c g) a) d e a=a:=by unfold E3;grind
variable{a:Ai}
def FQ{c:AK}{e:C AE}{f d:K}(b:D):(Ai.mk (a.Ac++[c]) e f d).at b=if b=a.Ac.l then c else a.at b:=by
 unfold Ai.at;by_cases g:b=a.Ac.l;.grind
 grind
variable{b:D}
def dp(c:a.Ac.l<=b):a.at b=Zi:=by unfold Ai.at;grind
structure c6(d:D)(a:AK)(e b:D)(f:K):Prop where
 AP:a.AP=(e:K)
 Ax:a.Ax=(b:K)
 Az:a.Az=f
 next:a.next= -1
 vp:∀c,B5 d (GQ a c)
 p0:(GQ a 0).Ak≠0
 AS:∀b,D9 a b=0
 AD:∀b c,EI a b c=AO
 cT:∀b c,Ek a b c=EQ
variable{d g:D}
def ii{n:C Ab}{a:Ab}{j h f:K}{i:K}{c:N}(k:h=(g:K))(l:f=(b:K))(p:B5 d c)(m:c.Ak≠0)(o:1<=a.An):c6 d {Dl n a j h f i with An:=(BG a.An.n AO).set 0 c} g b i where
 AP:=k
 Ax:=l
 Az:=B
 next:=B
 vp:=λe=>by
  show B5 d ((((BG a.An.n AO).set 0 c)[e]?).g AO);by_cases q:e=0;.grind
  .rw[AeJ Om,ch];exact It d
 p0:=by show((((BG a.An.n AO).set 0 c)[0]?).g AO).Ak≠0;rw[Aex (by rw[Afr];omega)];exact m
 AS:=λb=>ch _ _ _
 AD:=λb e=>T9 _ _ _ _ _
 cT:=λb e=>T9 _ _ _ _ _
variable{i n:D}
def WF.Km{t:C Ab}(d:WF t a){o:AK}{w:K}(x:CF t ⟨a.Ac++[o],a.Am,a.round,a.AA⟩)(e:c6 a.Am.l o i n w)(J:i<a.Ac.l)(I:0<D9 (a.at i) n/\∀c,((EI (a.at i) n c).Ak=0↔(Ek (a.at i) n c).is=Aa))(G:∀v,CW a v i n->(a.at v).Az≠w):WF t ⟨a.Ac++[o],a.Am,a.round,a.AA⟩:=by
 have u:(Ai.mk (a.Ac++[o]) a.Am a.round a.AA).Ac.l=a.Ac.l+1:=AdY;have s:∀{b f g:D},CW ⟨a.Ac++[o],a.Am,a.round,a.AA⟩ b f g↔(b=a.Ac.l/\f=i/\g=n)\/CW a b f g:=by
  intro b f g;unfold CW;rw[u,FQ];by_cases j:b=a.Ac.l;.subst j;rw[Af B,e.AP,e.Ax];omega
  grind
 have M:∀{b f g:D},CW a b f g->b≠a.Ac.l:=λc=>by have:=c.1;omega
 exact{
  sh:=x
  Fj:=d.Fj
  AA:=d.AA
  vp:=λc b=>by
   rw[FQ];split;.exact e.vp b
   .exact d.vp c b
  vo:=λc b k=>by
   rw[FQ];split;.rw[e.AD];exact It _
   .exact d.vo c b k
  p0:=λc l=>by
   rw[u]at l;rw[FQ];split;.exact e.p0
   .exact d.p0 c (by omega)
  f0:=λc b=>by
   rw[FQ];split;.rw[e.AS];omega
   .exact d.f0 c b
  Fk:=λc b=>by
   rw[FQ];split;.intro _ k;exact⟨by rw[e.AD];rfl,e.cT b k⟩
   .exact d.Fk c b
  Fo:=λb f g c=>by
   rcases s.1 c with⟨rfl,rfl,rfl⟩|c;.rw[FQ,Ad (by omega)];omega
   .have:=d.Fo b f g c;rw[FQ,Ad (λj=>by subst j;rw[dp Om]at this;exact BF this.1 (by show¬(0:K)<0;omega):f≠a.Ac.l)];omega
  B1:=λr b c=>by
   rw[FQ];split;.exact .i (e.cT b c)
   .rcases d.B1 r b c with l|⟨l,k,p,m⟩;.grind
    .exact .j ⟨l,k,P,by rw[FQ,Ad P];omega⟩
  KN:=λb k f g p m h=>by
   rw[FQ,FQ]at h;rcases s.1 p with⟨rfl,rfl,rfl⟩|p<;>rcases s.1 m with⟨rfl,z,E⟩|m;.rfl
   .rw[Ad P,Af B,e.Az]at h;grind
   .subst z;subst E;rw[Af B,Ad P,e.Az]at h;grind
   .rw[Ad P,Ad P]at h;exact d.KN b k f g p m h
  L4:=λc l q=>by
   rw[u]at l;rw[FQ]at q⊢;split;.rename_i j;rw[Af j]at q;exact BF e.next q
   .rename_i j;rw[Ad j]at q;exact d.L4 c (by omega) q
  AV:=λF y=>by obtain⟨r,b,p,m,h,H⟩:=d.AV F y;exact⟨r,b,by omega,m,h,by rw[FQ,Ad (by omega)];omega⟩
  Jx:=d.Jx}
def WF.RH{l:C Ab}{e:Ai}(h:WF l e)(s:g<e.Ac.l){n:K}(v:CF l (e.AJ g {e.at g with next:=n}))(E:(Et l (e.at g)).Ak≠0/\(Et l (e.at g)).Ak≠5):WF l (e.AJ g {e.at g with next:=n}):=by
 have d:∀(b:D){u:Type}(m:AK->u),(m {e.at g with next:=n}=m (e.at g))->m ((e.AJ g {e.at g with next:=n}).at b)=m (e.at b):=λb u m i=>by rw[E4 s];grind
 have F:∀{c j k:D},CW (e.AJ g {e.at g with next:=n}) c j k↔CW e c j k:=by intro c j k;unfold CW;rw[Ej,d c (λa=>a.AP) B,d c (λa=>a.Ax) B]
 exact{
  sh:=v
  Fj:=h.Fj
  AA:=h.AA
  vp:=λb c=>by rw[d b (λa=>GQ a c) B];exact h.vp b c
  vo:=λb c f=>by rw[d b (λa=>EI a c f) B];exact h.vo b c f
  p0:=λb i=>by rw[Ej]at i;rw[d b (λa=>GQ a 0) B];exact h.p0 b i
  f0:=λb c=>by rw[d b (λa=>D9 a c) B];exact h.f0 b c
  Fk:=λb c i f=>by rw[d b (λa=>D9 a c) B]at i;rw[d b (λa=>EI a c f) B,d b (λa=>Ek a c f) B];exact h.Fk b c i f
  Fo:=λc j k b=>by have:=h.Fo c j k P;rw[d j (λa=>D9 a k) B];exact⟨Om,λf=>by rw[d j (λa=>EI a k f) B,d j (λa=>Ek a k f) B];grind⟩
  B1:=λb c f=>by
   rw[d b (λa=>Ek a c f) B];rcases h.B1 b c f with i|⟨i,q,r,p⟩;.grind
   .exact .j ⟨i,q,P,by rw[d q (λa=>a.Az) B];omega⟩
  KN:=λc f j k r p o=>by rw[d c (λa=>a.Az) B,d f (λa=>a.Az) B]at o;exact h.KN c f j k P P o
  L4:=λb i t=>by
   rw[Ej]at i;rw[d b (λa=>Et l a) B];by_cases x:b=g;.grind
   .rw[R7 s x]at t;exact h.L4 b i t
  AV:=λy w=>by obtain⟨b,c,r,p,o,z⟩:=h.AV y w;exact⟨b,c,by rw[Ej];omega,p,o,by rw[d b (λa=>IM l a c) B,d b (λa=>D9 a c) B,d b (λa=>EI a c 0) B];omega⟩
  Jx:=h.Jx}
def DP.refl{j:C Ab}{c:Ai}(b:WF j c){a:D}(g:a<c.Ac.l):DP c a (c.at a)where
 hi:=g
 En:=DQ.refl _
 next:=B
 Ar:=IW.refl _
 vp:=b.vp a
 vo:=b.vo a
 f0:=b.f0 a
 fm:=λ_ f=>f
 Fk:=b.Fk a
 Fo:=λe d i=>(b.Fo e a d i).2
 B1:=b.B1 a
 AV:=λd s h=>by obtain⟨k,l,m,n,o,p,q,r⟩:=b.AV _ h;grind
def DP.ri{g:Ai}{a:AK}(b:DP g i a){e:N}(o:B5 g.Am.l e)(d:D):DP g i (FG a d e).1:=by
 have k:=gw a d e;unfold FG at*;split;.omega
 .rename_i h;rw[Ad h]at k;have m:(GQ a d).Ak=0:=AdS λf=>h (.j f);exact{
   hi:=b.hi
   En:=b.En.AI P
   next:=b.next
   Ar:=b.Ar.AI ⟨λc p=>by show(((a.An.set d e)[c]?).g AO)=_;rw[AeJ (λl=>(P:c≠d) l.s)];rfl,λ_ _ _=>B⟩
   vp:=λc=>by
    have j:GQ {a with An:=a.An.set d e} c=e\/GQ {a with An:=a.An.set d e} c=GQ a c:=by
     show(((a.An.set d e)[c]?).g AO)=_\/(((a.An.set d e)[c]?).g AO)=_;by_cases f:c=d
     .subst f;by_cases n:c<a.An.l;.grind
      .right;rw[Af4 (by grind)];unfold GQ;grind
     .exact .j (by rw[AeJ Om];rfl)
    rcases j with f|f;.grind
    .rw[f];exact b.vp c
   vo:=b.vo
   f0:=b.f0
   fm:=b.fm
   Fk:=b.Fk
   Fo:=b.Fo
   B1:=b.B1
   AV:=b.AV}
def DP.Dc{b:Ai}{g:D}{d:AK}(c:DP b g d){h:AF->N}{f:C AF}(i:∀e∈f,B5 b.Am.l (h e)):∀a,DP b g (Dc h f d a).1
 |0=>c
 |a+1=>by
  have j:=DP.Dc c i a;unfold YtbmnfifnenajjaaGreat.Dc;split;.rename_i e k;exact j.ri P a
  omega
structure RS(a:Ai)(c b:D)(e:BA):Prop where
 is:e.is=L
 Fo:∃d,CW a d c b/\(a.at d).Az=e.Az
 AS:0<D9 (a.at c) b
 AV:((1000*c+b:D):K)∉Dm a.Am
variable{j:N}
def DP.M8{l:Ai}{c:AK}{i:BA}(g:DP l n c)(m:RS l n b i)(G:B5 l.Am.l j)(E:j.Ak≠0)(t:G6 c.AG b d)(p:G6 c.A4 b d):DP l n (CZ c b d j i).1:=by
 have s:=YS c b d j i;unfold CZ at*;split;.omega
 .split;.omega
  .rename_i w x;rw[Ad w,Ad x]at s;obtain⟨k,r,y⟩:=m.Fo;have F:(EI c b d).Ak=0:=(g.Fo k b r d).2 P;have z:0<D9 c b:=g.fm b m.AS;exact{
    hi:=g.hi
    En:=g.En.AI s.1
    next:=g.next
    Ar:=g.Ar.AI ⟨λ_ _=>B,λh a H=>Kn P⟩
    vp:=g.vp
    vo:=λh a=>by
     show B5 _ (E3 (CP c.AG b d j) h a AO);rcases YN c.AG b d h a j AO with e|e|e;.grind
     .rw[e];exact g.vo h a
     .rw[e];exact It _
    f0:=g.f0
    fm:=g.fm
    Fk:=λh o a=>by
     have e:¬(h=b/\a=d):=λe=>by obtain⟨rfl,rfl⟩:=e;have o:D9 c h=0:=o;omega
     have:=g.Fk h o a;refine⟨?_,?_⟩;.show(E3 (CP c.AG b d j) h a AO).Ak=0;rw[Kn e];exact this.1
     .show E3 (CP c.A4 b d i) h a EQ=EQ;rw[Kn e];exact this.2
    Fo:=λh a v f=>by
     show((E3 (CP c.AG b d j) a f AO).Ak=0↔(E3 (CP c.A4 b d i) a f EQ).is=Aa);by_cases e:a=b/\f=d;.obtain⟨rfl,rfl⟩:=e;rw[T_ t,T_ p];exact⟨Om,λe=>by rw[m.is]at e;grind⟩
     .rw[Kn e,Kn e];exact g.Fo h a v f
    B1:=λa f=>by
     show E3 (CP c.A4 b d i) a f EQ=EQ\/_;by_cases e:a=b/\f=d;.obtain⟨rfl,rfl⟩:=e;right;show(E3 (CP c.A4 a f i) a f EQ).is=L/\∃k,CW l k n a/\(l.at k).Az=(E3 (CP c.A4 a f i) a f EQ).Az;rw[T_ p];exact⟨m.is,k,r,y⟩
     .show E3 (CP c.A4 b d i) a f EQ=EQ\/(E3 (CP c.A4 b d i) a f EQ).is=L/\∃k,CW l k n a/\(l.at k).Az=(E3 (CP c.A4 b d i) a f EQ).Az;rw[Kn e];exact(g.B1 a f)
    AV:=λa u q=>by show(E3 (CP c.AG b d j) a 0 AO).Ak=0;rw[Kn (λe=>by obtain⟨rfl,_⟩:=e;exact m.AV q:¬(a=b/\(0:D)=d))];exact g.AV a u q}
variable{c:D}
def Of{i:Type}{a b:C (C i)}(j:b.m List.length=a.m List.length)(g:G6 a c d):G6 b c d:=by obtain⟨m,e,k⟩:=g;obtain⟨h,f,l⟩:=Va (e:=b) (c:=a) P e;exact⟨h,f,by omega⟩
def DP.Ce{e:Ai}{h c:D}{b:AK}{g:BA}(k:DP e h b)(j:RS e h c g){i:D->N}(o:∀a,B5 e.Am.l (i a)){f:D}(m:∀a,a<f->G6 b.AG c a)(n:∀a,a<f->G6 b.A4 c a):∀d,d<=f->DP e h (Ce i c g b d).1
 |0,_=>k
 |d+1,r=>by
  have p:=DP.Ce k j o m n d (by omega);have l:=(Ub i c g b d).1;unfold YtbmnfifnenajjaaGreat.Ce;split;.omega
  .rename_i q;split;.omega
   .exact p.M8 j P Om (Of l.AG P) (Of l.A4 P)
def WF.Bs{e:C Ab}(c:WF e a)(b:D)(d:AF):B5 a.Am.l (Bs (a.at b) d):=by
 rw[cQ];split
 .split;.exact c.vp b _
  .exact c.vo b _ _
 .exact It _
structure BY(b:C Ab)(a:Ai):Prop where
 W:WF b a
 V:YA a
variable{e:D}
def BY.AJ{f:C Ab}(c:BY f a){d:AK}(b:DP a e d):BY f (a.AJ e d):=⟨c.W.AJ b,b.vm c.V⟩
def YM{c:C Ab}{b:Ai}(a:BY c b)(f:d<b.Ac.l):BY c (Cj c b d).1:=by
 unfold Cj;simp only[];split;.omega
 .exact a.AJ ((DP.refl a.W f).Dc (λe _=>a.W.Bs _ e) _)
def BY.up{i:C Ab}(j:BY i a)(h:b<a.Ac.l)(k:(a.at b).AP≠-1):∃c e f g,Gc i a b (a.at b) c e (a.at c) f g/\CW a b c e/\c<a.Ac.l:=by obtain⟨c,e,l,f,g,d⟩:=(j.W.sh.up b _ (Di h)).resolve_left k;have:=DK d.Cc;subst this;exact⟨c,e,f,g,d,⟨h,d.AP,d.Ax⟩,(AdN.1 d.Cc).1⟩
def WF.uE{c:C Ab}(e:WF c a)(m:b<1000)(n:IM c (a.at d) b≠12):((1000*d+b:D):K)∉Dm a.Am:=λf=>by obtain⟨g,h,i,j,k,l,_⟩:=e.AV _ f;grind
variable{k:D}
def Gc.IM{d:C Ab}{i:Ai}{j:D}{h:AK}{b:AK}{g:Ab}{e:Au}(a:Gc d i j h k c b g e):IM d b c=e.op:=by obtain⟨l,f⟩:=a.GZ;unfold YtbmnfifnenajjaaGreat.IM;rw[f.Ca,a.hn];rfl
def Gc.M8{f:C Ab}(k:BD f)(h:BY f a){i:Ab}{m:Au}(d:Gc f a b (a.at b) c e (a.at c) i m)(g:CW a b c e)(n:Ah):RS a c e ⟨(a.at b).Az,n,L⟩where
 is:=B
 Fo:=⟨b,g,B⟩
 AS:=(h.W.Fo b c e g).1
 AV:=by obtain⟨l,j⟩:=d.GZ;have o:=(AdN.1 d.hn).1;have:=(k.Bc l i j.hb).Av;exact h.W.uE (by omega) (by rw[d.IM];have:=d.op;omega)
def Gc.Ga{j:C Ab}(p:BD j){s:Ai}{w y a:D}{n d:AK}{m:Ab}{h:Au}(b:Gc j s w n y a d m h){o:D}{e:Ab}(k:Dw j o e n):∃g f,d.AG[a]? =A g/\d.A4[a]? =A f/\g.l=e.Bk.l/\f.l=e.Bk.l:=by
 obtain⟨x,c⟩:=b.GZ;have M:=(AdN.1 b.hn).1;obtain⟨g,v⟩:=Bb (b:=d.AG) (a:=a) (by rw[c.AG];omega);obtain⟨f,u⟩:=Bb (b:=d.A4) (a:=a) (by rw[c.A4];omega);obtain⟨q,r,F,t,G,H,I⟩:=((p.Bc x m c.hb).Ax a h b.hn).call b.op;have z:=c.AD a h g b.hn v;have E:=c.B1 a h f b.hn u;have:r=e:=by
  have J:=b.CH;have:q=o:=by have:=k.ha;omega
  subst this;exact Aew (t.s.t k.hb)
 grind
def ZP{d:C Ab}(g:BD d){c:Ai}(a:BY d c)(i:b<c.Ac.l)(l:(c.at b).AP≠-1):BY d (EU d c b).1:=by
 obtain⟨w,t,s,v,h,e,m⟩:=a.up i l;obtain⟨u,k,f⟩:=a.W.sh.BC b _ (Di i);obtain⟨p,o,q,r,x,y⟩:=h.Ga g f;unfold EU;simp only[e.2.1,e.2.2,AdR,f.Ca];refine a.AJ ((DP.refl a.W m).Ce (h.M8 g a e Aa) (λj=> ?_) (f:=k.Bk.l) (λj n=>⟨p,q,by omega⟩) (λj n=>⟨o,r,by omega⟩) _ Om);unfold Fx;split;.exact a.W.Bs b _
 .exact It _
def Aak{e:C Ab}(f:BD e){b:Ai}(a:BY e b)(h:c<b.Ac.l)(n:(b.at c).AP≠-1)(p:B5 b.Am.l j):BY e (JI b c j).1:=by obtain⟨y,v,u,x,g,d,o⟩:=a.up h n;obtain⟨w,m,l⟩:=a.W.sh.BC c _ (Di h);obtain⟨s,r,i,t,z,E⟩:=g.Ga f l;unfold JI;simp only[d.2.1,d.2.2,AdR,i,Aeg];exact a.AJ ((DP.refl a.W o).Ce (g.M8 f a d L) (λk=>p) (f:=m.Bk.l) (λk q=>⟨s,i,by omega⟩) (λk q=>⟨r,t,by omega⟩) _ (by omega))
def uA{c:C Ab}(b:BY c a)(f:(a.at d).next.n<a.Ac.l):BY c (Gv c a d).1:=by unfold Gv;exact b.AJ ((DP.refl b.W f).Dc (λe _=>b.W.Bs _ e) _)
def BY.next{h:C Ab}(e:BY h a)(f:b<a.Ac.l)(g:(a.at b).next≠-1):∃c:D,L7 a b (a.at b) c (a.at c)/\c<a.Ac.l:=by obtain⟨c,i,d⟩:=(e.W.sh.next b _ (Di f)).resolve_left g;have:=DK d.Cc;subst this;exact⟨c,d,(AdN.1 d.Cc).1⟩
def BY.F8{n:C Ab}(h:BY n a)(k:CW a c e d)(r:(a.at c).next= -1)(s:0<=(a.at c).Az):∀b,CW a b e d->(a.at b).Az≠(a.at c).Az+1:=λb g o=>by
 obtain⟨i,j,p⟩:=h.V b e d g (by omega);obtain⟨m,f,q⟩:=h.next j (by omega);have l:m=b:=by have:=f.next;omega
 subst l;have:=h.W.KN i c e d (⟨j,f.AP.s.t g.2.1,f.Ax.s.t g.2.2⟩:CW a i e d) k (by have:=f.Az;omega);grind
def bs{g:C Ab}(E:BD g){c:Ai}(h:BY g c)(w:e<c.Ac.l)(xf:(c.at e).AP≠-1)(xc:(Et g (c.at e)).Ak≠0)(xn:(Et g (c.at e)).Ak≠5):BY g (Gu g c e).1:=by
 obtain⟨F,R,Y,xi,i,I,xg⟩:=h.up w xf;obtain⟨q,j,p⟩:=h.W.sh.BC e _ (Di w);have G:=(XN E h.W.sh (Di w) i p).2.1;unfold Gu at*;simp only[]at*;split at G
 .rename_i Q;rw[Af Q];by_cases xa:c.Ac.l=400
  .have xo:EO g c (c.at e).Bc (c.at e).AP (c.at e).Ax ((c.at e).Az+1) (Et g (c.at e))=(c,5):=by unfold EO;grind
   grind
  .have xd:EO g c (c.at e).Bc (c.at e).AP (c.at e).Ax ((c.at e).Az+1) (Et g (c.at e))=(⟨c.Ac++[{Dl g j q (c.at e).AP (c.at e).Ax ((c.at e).Az+1)with An:=(BG j.An.n AO).set 0 (Et g (c.at e))}],c.Am,c.round,c.AA⟩,0):=by
    unfold EO;rw[Ad xa,p.ha,AdR,p.hb]
   rw[xd]at G⊢
   have Z:¬((0:K)≠0):=by omega
   rw[Ad Z]at G⊢
   have H:=E.Bc q j p.hb
   have xq:=h.W.sh.Az e _ (Di w)
   have xp:=h.W.sh.A7
   have W:=h.W.sh.Km (g:={Dl g j q (c.at e).AP (c.at e).Ax ((c.at e).Az+1)with An:=(BG j.An.n AO).set 0 (Et g (c.at e))}) (u:=c.Am) (w:=c.round) (q:=c.AA) (by omega) ⟨q,j,Vi E p.hb _ _ _ _ (br H.An.1 _)⟩ ⟨F,R,c.at F,Y,xi,i.AP,i.Ax,by omega,i.Cc,i.GZ,i.hn,i.op,i.CH.t p.ha⟩ B (by show 0<=(c.at e).Az+1/\(c.at e).Az+1<=_;omega)
   have V:=ii (n:=g) (a:=j) (j:=(q:K)) (i:=(c.at e).Az+1) (c:=Et g (c.at e)) (d:=c.Am.l) i.AP i.Ax (h.W.Bs e _) xc H.An.1
   generalize({Dl g j q (c.at e).AP (c.at e).Ax ((c.at e).Az+1)with An:=(BG j.An.n AO).set 0 (Et g (c.at e))}:AK)=u at*
   have X:=h.W.Km W V xg (h.W.Fo e F R I) (h.F8 I Q Om)
   have S:(Ai.mk (c.Ac++[u]) c.Am c.round c.AA).Ac.l=c.Ac.l+1:=AdY
   have xb:(Ai.mk (c.Ac++[u]) c.Am c.round c.AA).at e=c.at e:=by rw[FQ,Ad (by omega)]
   have x:e<(Ai.mk (c.Ac++[u]) c.Am c.round c.AA).Ac.l:=by omega
   have J:=X.RH x (n:=(c.Ac.l:K)) (by grind) (by grind)
   rw[xb]at J
   refine⟨J,λo M U k T=> ?_⟩
   have z:∀{xj:Type}(s:AK->xj),(s {c.at e with next:=(c.Ac.l:K)}=s (c.at e))->∀k,k≠c.Ac.l->s (((Ai.mk (c.Ac++[u]) c.Am c.round c.AA).AJ e {c.at e with next:=(c.Ac.l:K)}).at k)=s (c.at k):=λs xk k xe=>by
    rw[E4 x];split;.grind
    .rw[FQ,Ad xe]
   by_cases y:o=c.Ac.l
   .exact⟨e,by rw[Ej];omega,by rw[HE x,y]⟩
   .have xh:=k.1;rw[Ej,S]at xh;have T:0<(c.at o).Az:=by rw[<-z (λn=>n.Az) B o y];omega
    obtain⟨n,xl,xm⟩:=h.V o M U (⟨by omega,by rw[<-z (λn=>n.AP) B o y];exact k.2.1,by rw[<-z (λn=>n.Ax) B o y];exact k.2.2⟩:CW c o M U) T;refine⟨n,by rw[Ej,S];omega,?_⟩;rw[R7 x P,FQ,Ad (by omega)];omega
 grind
def uD{e:C Ab}(f:BD e){d:Ai}(a:BY e d)(b:c<d.Ac.l)(g:(d.at c).AP≠-1):BY e (ER e d c).1:=by
 obtain⟨z,v,p,y,j,o,t⟩:=a.up b g;obtain⟨x,q,i⟩:=a.W.sh.BC c _ (Di b);unfold ER;simp only[];split;.omega
 .rename_i l;split;.exact Aak f a b g (a.W.Bs c _)
  .rename_i n;have k:=bs f a b g l n;split;.omega
   .rename_i u;obtain⟨r,w,s,m,h⟩:=(XN f a.W.sh (Di b) j i).2.2 Om;refine uA k ?_;rw[(DK m),h.next,AdR];exact(AdN.1 h.Cc).1
def Hk.R6{b c:Ai}(f:Hk b c){a:D}(e:a<b.Ac.l):DQ (b.at a) (c.at a)/\(c.at a).next=(b.at a).next:=by obtain⟨g,d,h,i⟩:=f.Cc a _ (Di e);rw[DK d];grind
def rr{a:C Ab}(f:BD a){c:Ai}(m:BY a c)(e:b<c.Ac.l):BY a (El a c b).1:=by
 unfold El;simp only[];split;.omega
 .rename_i s;have j:=(T7 (c:=a) (Di e)).1;have h:=YM m e;have o:=(j.R6 e).1;have d:b<(Cj a c b).1.Ac.l:=by rw[j.A7];omega
  have i:((Cj a c b).1.at b).AP≠-1:=by rw[o.AP];omega
  have n:=ZP f h d i;obtain⟨w,u,r,v,g,q,t⟩:=h.up d i;have k:=(Uw (b:=a) (Di d) g.AP g.Cc).1;have p:=(k.R6 d).1;split;.omega
  .split;.omega
   .exact uD f n (by rw[k.A7];omega) (by rw[p.AP];omega)
def Tv{a:C Ab}(c:BD a){e:Ai}(d:BY a e):∀b,BY a (B9 a e b).1
 |0=>d
 |b+1=>by
  have f:=Tv c d b;rw[Rx];split;.omega
  .rename_i g;exact rr c f Om
def zas{c:C Ab}(e:BD c){g:D}:∀{h:D}{b:Ai}{d:Ai×K},BY c b->IF c g h b=A d->BY c d.1
 |0,b,d,f,a=>by cases a
 |h+1,b,d,f,a=>by
  have i:=Tv e f g;unfold IF at a;split at a;.grind
  .split at a;.exact zas e i a
   grind
variable{f:D}
def aw{a:C Ab}(h:BD a){b:Ai}{g:Ai×K}(i:BY a b)(c:Ib a e f b=A g):BY a g.1:=by
 unfold Ib at c
 cases d:IF a e f b with
 |none=>grind
 |some j=>rw[d]at c;have:=zas h i d;grind
def wl(a b:C _):Dm (a++b)=Dm a++Dm b:=by unfold Dm;grind
def PN(a:C _):BH a=(Dm a).l:=by
 induction a with
 |nil=>rfl
 |cons b c d=>
  have:Dm (b::c)=b.AV.m (λe=>e.Ct)++Dm c:=by unfold Dm;grind
  rw[this,AdY,Ad9,<-d];rfl
def b9{f:C _}{h:AE}(k:f[c]? =A h):∃e,(Dm f).Perm (h.AV.m (λb=>b.Ct)++e)/\∀i:AE,(Dm (f.set c i)).Perm (i.AV.m (λb=>b.Ct)++e):=by
 induction f generalizing c with
 |nil=>grind
 |cons d g j=>
  have n:∀(d:AE)(g:C _),Dm (d::g)=d.AV.m (λb=>b.Ct)++Dm g:=λd g=>by unfold Dm;grind
  cases c with
  |zero=>grind
  |succ c=>
   let⟨e,l,m⟩:=j (c:=c) (by grind)
   refine⟨d.AV.m (λb=>b.Ct)++e,?_,P⟩<;>grind
def Pf{a:C _}:Ft a↔a.l<=400/\(∀b∈a,b.I.l<=100/\KK a.l b=L)/\BH a<=6000:=by
 constructor
 .intro c;have e:=c.Sc;unfold I1 at e;split at e;.rename_i h;rw[AdO]at h;exact⟨c.ok.1,λb d=>⟨(c.ok.2 b d).1,P⟩,c.jf⟩
  omega
 .rintro⟨f,l,m⟩
  refine⟨⟨f,λb d=>⟨P,?_⟩⟩,?_⟩
  .let⟨k,g⟩:=Aff.1 d
   let⟨j,i,_⟩:=b9 g
   have:=i.length_eq;rw[<-PN,AdY,Ad9]at this;omega
  .unfold I1;grind
variable{h:D}
def OO{c:AE}:KK h c=L↔(∀b∈c.I,B5 h b)/\∀a∈c.AV,0<=a.B0/\a.B0<=c.I.l-1/\((c.I[a.B0.n]?).g AO).Ak=0:=by
 unfold KK BK;rw[AdO,Aei,Aei];constructor
 .rintro⟨d,e⟩
  refine⟨λb g=>by have:=d b g;rw[Ph b (by omega)]at this;exact this,λa f=> ?_⟩;have:=e a f;simp only[AdO,AdV]at this;grind
 .rintro⟨d,e⟩
  refine⟨λb g=>by rw[Ph b (by omega)];exact d b g,λa f=> ?_⟩;have:=e a f;simp only[AdO,AdV];grind
def gD{a:C AE}(d:Ft a){h b:AE}(l:a[c]? =A h)(m:b.I.l<=100)(n:KK a.l b=L)(e:BH (a.set c b)<=6000):Ft (a.set c b):=by
 let⟨i,j,k⟩:=Pf.1 d
 refine Pf.2 ⟨by grind,λo f=> ?_,e⟩;rw[Aed];rcases AfH f with g|g;.grind
 .grind
def Aad(a:D)(c:K):B5 a (G3 c):=by
 unfold G3;split;.rename_i b;exact b
 .rfl
def dR(b:D)(a:Ah):B5 b (Eu a):=by cases a<;>rfl
def NW(b:D){a:K}(c:1<=a/\a<=5):B5 b (Ed a):=by show BK a 1 5=L;unfold BK;grind
def dz{a:D}:∀{b:C _},(∀c∈b,B5 a c)->B5 a (E5 b)
 |[],_=>It a
 |c::e,d=>by
  unfold E5;split;.grind
  .exact dz P
def gZ(b:D){a:K}(c: -1000000000<=a/\a<=1000000000):B5 b (EA a):=by show BK a _ 1000000000=L;unfold BK;grind
set_option maxHeartbeats 4000000 in
theorem wv (a:D) (d:BN) (b c:N):B5 a (PO d b c):=by
 unfold PO Oz NZ;repeat' split
 all_goals first|exact NW a (by omega)|exact dR a _|exact Aad a _|skip
def vo{a:D}{d:BN}{b:C _}(c:∀e∈b,B5 a e):B5 a (Kc d b):=by
 unfold Kc;split;.exact dz c
 .exact wv a _ _ _
def nA{a:D}{b:N}(c:B5 a b):B5 a (Na b):=by
 unfold Na
 repeat' split
 all_goals first|exact NW a (by omega)|exact dR a _|exact c
structure RU(a:C AE)(b:ED):Prop where
 Fj:Ft (BE a b).m
 A7:a.l<=(BE a b).m.l
 Eo:B5 (BE a b).m.l (BE a b).v
 sub:∀d∈Dm (BE a b).m,d∈Dm a\/(b.op=3/\d=b.Ct)
 Jx:(Dm a).Nodup->b.Ct∉Dm a\/b.op≠3->(Dm (BE a b).m).Nodup
 F1:∀c∈(BE a b).F1,b.op=2/\c.Ct∈Dm a/\c.v=b.c
 kj:(Dm a).Nodup->((BE a b).F1.m (λc=>c.Ct)).Nodup/\∀c∈(BE a b).F1,c.Ct∉Dm (BE a b).m
def Lr{a:C _}(c:Ft a){b:ED}(e:(BE a b).m=a)(f:B5 a.l (BE a b).v)(g:(BE a b).F1=[]):RU a b where
 Fj:=by grind
 A7:=by grind
 Eo:=by grind
 sub:=λj h=>P
 Jx:=λd _=>by grind
 F1:=λk i=>by grind
 kj:=λ_=>by grind
def lf{a:C AE}(d:Ft a){c:ED}(u:c.op=1)(t:B5 a.l c.a):RU a c:=by
 have b:BE a c=⟨(Er a c.a).1,(Er a c.a).2.1,[],(Er a c.a).2.2⟩:=by unfold BE;grind
 unfold Er at b;by_cases g:c.a.Ak=5;.rw[Af g]at b;exact Lr d (by grind) (by grind) (by grind)
 rw[Ad g]at b;by_cases h:c.a.Ak≠1;.rw[Af h]at b;exact Lr d (by grind) (by rw[b];exact NW _ (by omega)) (by grind)
 rw[Ad h]at b;by_cases i:BK c.a.n 0 100=Aa;.rw[Af i]at b;exact Lr d (by grind) (by rw[b];exact NW _ (by omega)) (by grind)
 rw[Ad i]at b;by_cases j:a.l=400;.rw[Af j]at b;exact Lr d (by grind) (by rw[b];exact It _) (by grind)
 rw[Ad j]at b;let⟨r,n,s⟩:=Pf.1 d
 have o:Dm (a++[⟨BG c.a.n.n AO,[]⟩])=Dm a:=by rw[wl];show Dm a++(List.flatMap _ [_])=_;grind
 have l:(a++[(⟨BG c.a.n.n AO,[]⟩:AE)]).l=a.l+1:=by grind
 refine⟨?_,by grind,?_,?_,?_,?_,?_⟩
 .rw[b];refine Pf.2 ⟨by grind,λf q=> ?_,by show BH (a++_)<=_;rw[PN,o,<-PN];grind⟩;show _/\KK (a++_).l f=L;rw[l];rcases Aej.1 q with k|k;.have:=n f k;refine⟨this.1,OO.2 ⟨λm e=>((OO.1 this.2).1 m e).up (by omega),(OO.1 this.2).2⟩⟩
  .have:f=⟨BG c.a.n.n AO,[]⟩:=by grind
   subst this;refine⟨?_,OO.2 ⟨λm e=> ?_,P⟩⟩
   .rw[Afr];have:BK c.a.n 0 100=L:=by grind
    unfold BK at this;grind
   .rw[(List.mem_replicate.1 e).2];exact It _
 .rw[b];show Gt (JJ a.l) (a++_).l=L;rw[l];show BK a.l 0 ((a.l+1)-1)=L;unfold BK;grind
 .intro v p;rw[b]at p;exact .i (by grind)
 .grind
 .grind
 .intro _;rw[b];grind
def Aac{a:C _}(c:Ft a){b:ED}(i:b.op=4)(g:B5 a.l b.a):RU a b:=by
 have d:BE a b=⟨a,L2 a b.a,[],0⟩:=by unfold BE;grind
 refine Lr c (by grind) ?_ (by grind);rw[d];unfold L2;split;.grind
 .split
  .refine gZ _ ?_;split
   .rename_i f e;let⟨j,_,h⟩:=Mt e
    have:=((Pf.1 c).2.1 f P).1;omega
   omega
  .exact NW _ (by omega)
def VH{b:C _}{c:N}(a:B5 b.l c):Kd b c:=λd=>by
 unfold B5 Gt BK at a;rw[Ad (by omega),Ad (by omega),Ad (by omega),Af d]at a;simp only[AdO,AdV]at a;let⟨e,f⟩:=Bb (b:=b) (a:=c.n.n) (by omega)
 exact⟨e,by unfold Iq;grind⟩
def wj{c:C AE}(d:Ft c){a:ED}(S:a.op=3)(x:B5 c.l a.a)(Q:B5 c.l a.b):RU c a:=by
 have b:BE c a=⟨(Eb c a.a a.b a.Ct).1,(Eb c a.a a.b a.Ct).2.1,[],(Eb c a.a a.b a.Ct).2.2⟩:=by unfold BE;grind
 unfold Eb at b;by_cases k:a.a.Ak=5;.rw[Af k]at b;exact Lr d (by grind) (by grind) (by grind)
 rw[Ad k]at b;by_cases l:a.b.Ak=5;.rw[Af l]at b;exact Lr d (by grind) (by grind) (by grind)
 rw[Ad l]at b;by_cases m:a.a.Ak=3;.rw[Af m]at b;exact Lr d (by grind) (by rw[b];exact NW _ (by omega)) (by grind)
 rw[Ad m]at b;by_cases n:a.a.Ak≠4\/a.b.Ak≠1;.rw[Af n]at b;exact Lr d (by grind) (by rw[b];exact NW _ (by omega)) (by grind)
 rw[Ad n]at b;by_cases g:G0 c a.a a.b=Aa;.rw[Af g]at b;exact Lr d (by grind) (by rw[b];exact NW _ (by omega)) (by grind)
 rw[Ad g]at b;have g:G0 c a.a a.b=L:=by grind
 let⟨j,T,e,U,q,f,v,r,w,M,N,P⟩:=Sw (VH x) g
 let⟨I,u,J⟩:=Pf.1 d
 have p:=u e (AdU f);have G:=OO.1 p.2;by_cases h:(O8 c a.a a.b).Ak≠0;.rw[Af h]at b;exact Lr d (by grind) (by grind) (by grind)
 rw[Ad h]at b;by_cases o:6000<=BH c;.rw[Af o]at b;exact Lr d (by grind) (by rw[b];exact It _) (by grind)
 rw[Ad o]at b;have t:Ke c a.a.n (λe=>⟨e.I,e.AV++[⟨a.b.n,a.Ct⟩]⟩)=c.set j ⟨e.I,e.AV++[⟨a.b.n,a.Ct⟩]⟩:=by unfold Ke;grind
 rw[t]at b;let⟨H,z,E⟩:=b9 f
 have s:(Dm (c.set j ⟨e.I,e.AV++[⟨a.b.n,a.Ct⟩]⟩)).Perm (a.Ct::Dm c):=by refine(E _).trans ?_;rw[Aes,AeN];refine List.Perm.trans ?_ (List.Perm.cons _ z.symm);grind
 have R:=(AdN.1 r).1;refine⟨?_,by grind,by rw[b];exact It _,?_,?_,?_,?_⟩
 .rw[b];refine gD d f p.1 (OO.2 ⟨G.1,λF y=> ?_⟩) ?_
  .rcases Aej.1 y with i|i;.grind
   .have:F=⟨a.b.n,a.Ct⟩:=by grind
    subst this;refine⟨by grind,by grind,?_⟩;show((e.I[a.b.n.n]?).g AO).Ak=0;rw[v,AdR,r];rw[w]at h;grind
  .have:=s.length_eq;rw[<-PN,Aec,<-PN]at this;omega
 .grind
 .intro q f;rw[b];refine s.nodup_iff.2 (Afz.2 ⟨?_,q⟩);rcases f with i|i;.grind
  .grind
 .grind
 .intro _;rw[b];grind
def Aah(a:K)(d:N)(e:C BJ):(e.m λf=>f.Ct).Perm (((G4 a d e).m λb=>b.Ct)++(Gg a e).m λf=>f.Ct):=by
 induction e with
 |nil=>exact Af5 _
 |cons c b i=>
  have g:G4 a d (c::b)=(if c.B0=a then[⟨c.Ct,d⟩]else[])++G4 a d b:=by unfold G4;grind
  have h:Gg a (c::b)=(if c.B0=a then[]else[c])++Gg a b:=by unfold Gg;grind
  grind
def kG{b:C AE}(g:Ft b){a:ED}(u:a.op=2)(t:B5 b.l a.a)(Q:B5 b.l a.c)(R:(BE b a).e=0):RU b a:=by
 have d:BE b a=⟨(C9 b a.a a.b a.c).1,NM (C9 b a.a a.b a.c).2.2,(C9 b a.a a.b a.c).2.1,(C9 b a.a a.b a.c).2.2⟩:=by unfold BE;grind
 have z:B5 b.l (NM (C9 b a.a a.b a.c).2.2):=by unfold NM;split<;>rfl
 generalize NM (C9 b a.a a.b a.c).2.2=W at d z;unfold C9 at d;by_cases e:G0 b a.a a.b=Aa;.simp only[Af e]at d;exact Lr g (by grind) (by grind) (by grind)
 simp only[Ad e]at d;have e:G0 b a.a a.b=L:=by grind
 let⟨k,f,c,X,H,h,I,r,J,M,N,s⟩:=Sw (VH t) e
 let⟨F,p,G⟩:=Pf.1 g
 have y:=OO.1 (p c (AdU h)).2;by_cases n:(O8 b a.a a.b).Ak≠0;.grind
 simp only[Ad n]at d;have o:Ke b a.a.n (λc=>⟨c.I.set a.b.n.n a.c,Gg a.b.n c.AV⟩)=b.set k ⟨c.I.set f a.c,Gg a.b.n c.AV⟩:=by unfold Ke;grind
 rw[o,s]at d;simp only[]at d;let⟨E,w,U⟩:=b9 h
 have x:(Dm b).Perm (((G4 a.b.n a.c c.AV).m λm=>m.Ct)++Dm (b.set k ⟨c.I.set f a.c,Gg a.b.n c.AV⟩)):=by refine w.trans ?_;refine(List.Perm.append_right _ (Aah a.b.n a.c c.AV)).trans ?_;grind
 have S:=(AdN.1 r).1;refine⟨?_,by grind,by grind,?_,?_,?_,?_⟩
 .rw[d];refine gD g h (by grind) (OO.2 ⟨λV v=> ?_,λj i=> ?_⟩) ?_
  .rcases AfH v with q|q;.grind
   .grind
  .have i:=List.mem_filter.1 i;have:=y.2 j i.1;have T:j.B0≠f:=by grind
   refine⟨this.1,by grind,?_⟩;show(((c.I.set f a.c)[j.B0.n]?).g AO).Ak=0;rw[AeJ (by omega)];grind
  .have:=x.length_eq;rw[<-PN,AdY,<-PN]at this;omega
 .grind
 .grind
 .intro m l;rw[d]at l;refine⟨u,P,?_⟩;unfold G4 at l;grind
 grind
structure H4(b c:Ai)(e:D->D->Prop):Prop where
 A7:b.Ac.l<=c.Ac.l
 round:c.round=b.round
 En:∀a,a<b.Ac.l->DQ (b.at a) (c.at a)
 Ar:∀a,a<b.Ac.l->IW (b.at a) (c.at a)
 Qs:∀a d,a<b.Ac.l->¬e a d->D9 (c.at a) d=D9 (b.at a) d
def H4.refl(a:Ai)(b:D->D->Prop):H4 a a b:=⟨Om,B,λ_ _=>DQ.refl _,λ_ _=>IW.refl _,Om⟩
def H4.AI{f g h:Ai}{e:D->D->Prop}(a:H4 f g e)(d:H4 g h e):H4 f h e:=
 ⟨Aem a.A7 d.A7,d.round.t a.round,λc b=>(a.En c b).AI (d.En c (Aen b a.A7)),λc b=>(a.Ar c b).AI (d.Ar c (Aen b a.A7)),λc j b i=>(d.Qs c j (Aen b a.A7) i).t (a.Qs c j b i)⟩
def H4.sub{f g:Ai}{d e:D->D->Prop}(a:H4 f g d)(i:∀b c,d b c->e b c):H4 f g e:=⟨a.A7,a.round,a.En,a.Ar,λb c h j=>a.Qs b c h P⟩
def DP.Dj{b:Ai}{e:AK}(a:DP b c e){g:D->D->Prop}(j:∀d,¬g c d->D9 e d=D9 (b.at c) d):H4 b (b.AJ c e) g where
 A7:=by rw[Ej];grind
 round:=B
 En:=λi h=>by
  rw[E4 a.hi];split;.rename_i f;subst f;exact a.En
  .exact DQ.refl _
 Ar:=λi h=>by
  rw[E4 a.hi];split;.rename_i f;subst f;exact a.Ar
  .exact IW.refl _
 Qs:=λi d h k=>by rw[E4 a.hi];grind
def CW.op{e:C Ab}{b:Ai}(h:BY e b)(a:CW b i d c):IM e (b.at d) c=8\/IM e (b.at d) c=9:=by
 let⟨m,l,n,o,g,f,_⟩:=h.up a.1 (by rw[a.2.1];omega)
 have j:m=d:=by have:=a.2.1;have:=f.2.1;omega
 have k:l=c:=by have:=a.2.2;have:=f.2.2;omega
 subst j;subst k;rw[g.IM];exact g.op
structure P4(a:Ai)(b c d:D)(e:N):Prop where
 hi:b<a.Ac.l
 ok:B5 a.Am.l e
 Ky:(EI (a.at b) c d).Ak=0
 AS:0<D9 (a.at b) c
 Hf:∀f,¬CW a f b c
 AV:d=0->((1000*b+c:D):K)∈Dm a.Am->e.Ak=0
def P4.AJ{q:C Ab}{d:Ai}(j:BY q d){i:N}(h:P4 d c e f i):DP d c ((d.at c).AD e f i)where
 hi:=h.hi
 En:=⟨B,B,B,B,B,TJ _ _ _ _,B,B⟩
 next:=B
 Ar:=⟨λ_ _=>B,λg b r=>Kn λa=>by obtain⟨rfl,rfl⟩:=a;exact r h.Ky⟩
 vp:=j.W.vp c
 vo:=λg b=>by
  show B5 _ (E3 (CP (d.at c).AG e f i) g b AO);rcases YN (d.at c).AG e f g b i AO with a|a|a;.rw[a];exact h.ok
  .rw[a];exact j.W.vo c g b
  .rw[a];exact It _
 f0:=j.W.f0 c
 fm:=λ_ k=>k
 Fk:=λg k b=>by have:=j.W.Fk c g k b;refine⟨?_,this.2⟩;show(E3 (CP (d.at c).AG e f i) g b AO).Ak=0;rw[Kn (λa=>by obtain⟨rfl,rfl⟩:=a;have k:D9 (d.at c) g=0:=k;have:=h.AS;omega:¬(g=e/\b=f))];exact this.1
 Fo:=λn b m l=>by show((E3 (CP (d.at c).AG e f i) b l AO).Ak=0↔_);rw[Kn (λa=>by obtain⟨rfl,rfl⟩:=a;exact h.Hf n m:¬(b=e/\l=f))];exact(j.W.Fo n c b m).2 l
 B1:=j.W.B1 c
 AV:=λb p o=>by
  show(E3 (CP (d.at c).AG e f i) b 0 AO).Ak=0;by_cases a:b=e/\0=f
  .obtain⟨rfl,rfl⟩:=a;have:=h.AV B o;rcases YN (d.at c).AG b 0 b 0 i AO with a|a|a;.grind
   .rw[a];exact h.Ky
   .rw[a];rfl
  .rw[Kn a];exact(DP.refl j.W h.hi).AV b p o
def P4.cU{h:C _}(b:BY h a){f:N}(g:P4 a c d e f):BY h (a.AD c d e f)/\H4 a (a.AD c d e f) (λ_ _=>False):=
 ⟨b.AJ (g.AJ b),(g.AJ b).Dj λi _=>B⟩
def XV{d:Ai}(h:e<d.Ac.l)(a b c:D)(k:¬(a=e/\b=f/\c=g)):EI ((d.AD e f g j).at a) b c=EI (d.at a) b c:=by
 unfold Ai.AD;rw[E4 h];split;.rename_i i;subst i;exact Kn Om
 grind
def u1{b:Ai}(f:c<b.Ac.l){a:D}:CW (b.AD c g h j) a d e↔CW b a d e:=by
 unfold CW Ai.AD;rw[Ej,E4 f];by_cases i:a=c;.subst i;rw[Af B];rfl
 grind
def BY.Yh{i:C _}{b:Ai}(a:BY i b){e:C _}(k:Ft e)(j:b.Am.l<=e.l)(n:(Dm e).Nodup)(m:∀f∈Dm e,f∈Dm b.Am\/∃c d:D,c<b.Ac.l/\d<1000/\f=(1000*c+d:D)/\IM i (b.at c) d=12/\0<D9 (b.at c) d/\(EI (b.at c) d 0).Ak=0):BY i ⟨b.Ac,e,b.round,b.AA⟩:=⟨{
 sh:=a.W.sh.of B
 Fj:=k
 AA:=a.W.AA
 vp:=λc h=>(a.W.vp c h).up j
 vo:=λc d h=>(a.W.vo c d h).up j
 p0:=a.W.p0
 f0:=a.W.f0
 Fk:=a.W.Fk
 Fo:=a.W.Fo
 B1:=a.W.B1
 KN:=a.W.KN
 L4:=a.W.L4
 AV:=λf l=>by
  rcases m f l with g|g;.exact a.W.AV f g
  .exact g
 Jx:=n},a.V⟩
structure kW(e:C Ab)(a:Ai)(d:Bz)(b c:D):Prop where
 hi:b<a.Ac.l
 hj:c<1000
 rd:d.Ct=((1000*b+c:D):K)
 op:IM e (a.at b) c=12
 AS:0<D9 (a.at b) c
 Ky:(EI (a.at b) c 0).Ak=0
 ok:B5 a.Am.l d.v
 gC:d.Ct∉Dm a.Am
def kn{q:C _}:∀{e:C _}{a:Ai},BY q a->(e.m λg=>g.Ct).Nodup->(∀g∈e,∃h i,kW q a g h i)->BY q (e.foldl HY a)/\H4 a (e.foldl HY a) (λ_ _=>False)/\(e.foldl HY a).Ac.l=a.Ac.l/\(e.foldl HY a).Am=a.Am/\(e.foldl HY a).AA=a.AA/\(∀c d,((1000*c+d:D):K)∉e.m (λg=>g.Ct)->d<1000->∀j,EI ((e.foldl HY a).at c) d j=EI (a.at c) d j)/\(∀k m o,CW (e.foldl HY a) k m o↔CW a k m o)
 |[],a,l,_,_=>⟨l,H4.refl a _,B,B,B,P,P⟩
 |g::e,a,l,t,r=>by
  let⟨h,i,b⟩:=r g P
  let⟨v,p⟩:=(⟨b.hi,b.ok,b.Ky,b.AS,λk u=>by have:=CW.op l u;have:=b.op;omega,λ_ w=>BF (b.rd▸w) b.gC⟩:P4 a h i 0 g.v).cU l
  rw[AeC,Afz]at t;have I:(a.AD h i 0 g.v).Ac.l=a.Ac.l:=Ej ..;let⟨x,y,M,z,E,F,G⟩:=kn (e:=e) v P (λJ N=>by
   let⟨c,d,f⟩:=r J P
   refine⟨c,d,by rw[I];exact f.hi,f.hj,f.rd,?_,?_,by rw[XV b.hi c d 0 (λn=>by obtain⟨rfl,rfl,_⟩:=n;exact t.1 (by rw[b.rd,<-f.rd];grind):¬(c=h/\d=i/\0=0))];exact f.Ky,f.ok,f.gC⟩
   .unfold IM;rw[Y2 (p.En c f.hi)];exact f.op
   .rw[p.Qs c d f.hi id];exact f.AS)
  rw[AeY,(cN b.rd b.hj:HY a g=a.AD h i 0 _)];refine⟨x,p.AI y,Om,z,E,λc d s H j=> ?_,λk m o=>(G k m o).trans (u1 b.hi)⟩;rw[AeC,Ad6]at s;rw[F c d P H j,XV b.hi c d j λn=>s (.i (by rw[b.rd,n.1,n.2.1]))]
def ji{e:C _}(k:BY e a)(l:b<a.Ac.l)(i:IP e (a.at b) d=L):∃g c j h,Dw e g c (a.at b)/\c.Av[d]? =A j/\(a.at b).AS[d]? =A h/\FH (a.at b) j h=L:=by
 let⟨g,c,f⟩:=k.W.sh.BC b _ (Di l)
 unfold IP at i;rw[f.ha,AdR,f.hb]at i;grind
def jk{g:C _}(e:BY g a){h:Au}{d:K}(k:(a.at b).AS[c]? =A d)(f:FH (a.at b) h d=L):D9 (a.at b) c=0:=by
 have j:=e.W.f0 b c;have i:D9 (a.at b) c=d:=by unfold D9;grind
 unfold FH at f;grind
def cI{a:AK}{b:AF}:Hi a b=L↔(Bs a b).Ak≠0:=by unfold Hi Bs;grind
def wq{b:AK}{a:Au}{c:K}(d:FH b a c=L)(g:¬(a.op=8\/a.op=9))(f:a.op≠6):∀e∈a.A3,(Bs b e).Ak≠0:=by
 unfold FH at d;by_cases b:c>0;.grind
 .rw[Ad b,Ad g,Ad f]at d;exactλe h=>cI.1 P
def wr{b:AK}{a:Au}{d:K}(c:FH b a d=L)(e:a.op=8\/a.op=9):(Cu (a.A3.m (Bs b)) 0).Ak≠0:=by
 unfold FH at c;by_cases b:d>0;.grind
 .rw[Ad b,Af e]at c
  cases f:a.A3 with
  |nil=>grind
  |cons h g=>rw[f]at c;exact cI.1 c
def uT{a:N}(b:B5 c a)(d:a.Ak≠0):PK a:=by refine⟨?_,d⟩;unfold B5 at b;rw[<-Ph a (by omega)]at b;unfold Hd at b⊢;grind
def AaP{a:N}(c:B5 b a)(d:a.Ak≠0):Ie a b=L:=by unfold Ie;rw[AdO];exact⟨by grind,c⟩
def iI{b:C _}{a:Au}(c:¬(a.op=8\/a.op=9))(d:a.op≠11)(e:1<=a.op/\a.op<=14):1<=C7 b a:=by unfold C7;omega
def ax{m:C Ab}(o:b<a.Ac.l){h:Ab}{f:Au}(g:Dw m n h (a.at b))(k:h.Av[c]? =A f)(s:d<C7 m f):FB a b c d:=by
 have r:=(AdN.1 k).1;let⟨e,j⟩:=Bb (b:=(a.at b).AG) (a:=c) (by rw[g.AG];grind)
 have:=g.AD c f e k j;let⟨q,p⟩:=Bb (b:=e) (a:=d) (by omega)
 exact⟨_,e,q,Di o,j,p⟩
def AaT{b:C AE}(f:Ft b){a:ED}(g:a.op=2)(i:B5 b.l a.a)(j:B5 b.l a.c):(BE b a).F1.l<1000000/\∀e∈(BE b a).F1,e.Ct∈Dm b:=by
 by_cases c:(BE b a).e=0
 .refine⟨?_,λe l=>((kG f g i j c).F1 e l).2.1⟩;unfold BE;rw[Ad (by omega),Af g];unfold C9;split;.grind
  .split;.grind
   .show List.length (match Iq b a.a.n with|some d=>G4 a.b.n a.c d.AV|none=>[])<1000000;split
    .rename_i d k;let⟨n,_,m⟩:=Mt k
     have:=(f.ok.2 d P).2;unfold G4;grind
    grind
 .have:(BE b a).F1=[]:=by
   have h:BE b a=⟨(C9 b a.a a.b a.c).1,NM (C9 b a.a a.b a.c).2.2,(C9 b a.a a.b a.c).2.1,(C9 b a.a a.b a.c).2.2⟩:=by unfold BE;grind
   rw[h]at c⊢
   show(C9 b _ a.b a.c).2.1=[]
   unfold C9 at c⊢
   grind
  grind
def AaV{e:C Ab}(r:BD e){c:Ai}(b:BY e c){k:Bz}(o:k.Ct∈Dm c.Am):IY c k:=by
 let⟨h,i,g,p,q,a,t,u⟩:=b.W.AV _ o
 have:=b.W.sh.A7
 let⟨s,m,f⟩:=b.W.sh.BC h _ (Di g)
 refine⟨h,i,q,p,by omega,?_⟩
 unfold IM at a
 rw[f.Ca]at a
 cases d:m.Av[i]?with
 |none=>rw[d]at a;exact BF a (by decide)
 |some j=>rw[d]at a;have a:j.op=12:=a;have:=iI (b:=e) (a:=j) (by omega) (by omega) (by omega);exact ax g f d (by omega)
def W3{m:CI}(t:BD m.l){b:Ai}(h:BY m.l b)(x:c<b.Ac.l)(y:IP m.l (b.at c) k=L):∃u r a w,Dw m.l u r (b.at c)/\r.Av[k]? =A a/\(b.at c).AS[k]? =A w/\FH (b.at c) a w=L/\RV m b ⟨(c:K),(k:K)⟩ c k (b.at c) r a (a.A3.m (Bs (b.at c))):=by
 let⟨u,r,a,w,f,o,S,y⟩:=ji h x y
 refine⟨u,r,a,w,f,o,S,y,?_⟩;have N:=t.Bc u r f.hb;have g:=N.Ax k a o;have xm:=g.some t;have xq:=(AdN.1 o).1;have xp:=N.Av;have xe:=h.W.sh.A7;have xh:(a.A3.m (Bs (b.at c))).l=a.A3.l:=by grind
 have X:∀d∈a.A3.m (Bs (b.at c)),B5 b.Am.l d:=λd j=>by obtain⟨M,_,rfl⟩:=Aeu.1 j;exact h.W.Bs c M
 have xl:¬(a.op=8\/a.op=9)->a.op≠6->∀d∈a.A3.m (Bs (b.at c)),d.Ak≠0:=λn H d j=>by obtain⟨M,xg,rfl⟩:=Aeu.1 j;exact wq y n H M xg
 have xx:¬(a.op=8\/a.op=9)->a.op≠6->∀d∈a.A3.m (Bs (b.at c)),Ie d b.Am.l=L:=λn H d j=>AaP P (xl n H d j);have v:∀z,z<a.A3.l->∃d,(a.A3.m (Bs (b.at c)))[z]? =A d/\d∈a.A3.m (Bs (b.at c)):=λz xr=>by
  let⟨d,j⟩:=Bb (b:=a.A3.m (Bs (b.at c))) (a:=z) (by omega)
  grind
 exact{
  hi:=B
  hj:=B
  hc:=Di x
  ha:=⟨u,f.ha,f.hb⟩
  hn:=o
  hf:=(AdN.1 S).1
  hv:=f.CQ g.A3
  hl:=by omega
  Ld:=by omega
  Fj:=h.W.Fj
  AA:=h.W.AA
  aG:=λn G xd=>⟨{
   A7:=by omega
   Rz:=λR=>⟨by rw[xh];exact(g.Rz R).1,(g.Rz R).2,λd j=>uT (X d j) P⟩
   M3:=λxb=>by have:=g.M3 (by omega);omega
   V1:=λxb=>P
   rd:=by grind},ax x f o (by have:=iI (b:=m.l) n G g.op;omega)⟩
  sw:=λxd=>by
   have xc:=g.M3 Om;let⟨e,E,V⟩:=v 0 (by omega)
   let⟨p,F,xi⟩:=v 1 (by omega)
   have s:=X e V;have xs:C7 m.l a=2:=by unfold C7;omega
   have xv:(-9223372036854775806<=e.n/\e.n<=9223372036854775807)/\(e.Ak=2->0<=e.n/\e.n<=1):=by
    unfold B5 Gt BK at s;split at s;.grind
    .split at s;.grind
     .split at s;.grind
      .split at s;.simp only[AdO,AdV]at s;have:=h.W.Fj.ok.1;omega
       grind
   have xw:0<=(FZ e p).1/\(FZ e p).1<=1:=by unfold FZ;grind
   exact⟨e,p,E,F,Om,Om,ax x f o (by omega)⟩
  st:=λG=>by
   have xo:=g.kg G;let⟨e,E,V⟩:=v 0 (by omega)
   let⟨p,F,xi⟩:=v 1 (by omega)
   let⟨I,xa,xu⟩:=v 2 (by omega)
   have Q:=AaT h.W.Fj (a:=⟨2,e,p,I,0⟩) B P P;refine⟨e,p,I,E,F,xa,λJ xt=> ?_,Q.1,λxk xf=>AaV t h (Q.2 xk xf)⟩;have:J=e\/J=p\/J=I:=by grind
   rcases this with rfl|rfl|rfl;.grind
   .grind
   .grind
  call:=λn=>by
   let⟨U,T⟩:=Bb (b:=(b.at c).AG) (a:=k) (by rw[f.AG];grind)
   have xn:=f.AD k a U o T;have xc:=Rs t a;let⟨Y,Z,xj,W,_⟩:=g.call n
   exact⟨⟨U,T,by omega⟩,xe,λ_=>⟨Y,Z,xj,W,YU t W⟩⟩}
def BY.MZ{d:C _}{b:Ai}(a:BY d b){f c:K}(e:0<=c/\c<=6000):BY d ⟨b.Ac,b.Am,f,c⟩:=
 ⟨{sh:=a.W.sh.of B,Fj:=a.W.Fj,AA:=e,vp:=a.W.vp,vo:=a.W.vo,p0:=a.W.p0,f0:=a.W.f0,Fk:=a.W.Fk,Fo:=a.W.Fo,B1:=a.W.B1,KN:=a.W.KN,L4:=a.W.L4,AV:=a.W.AV,Jx:=a.W.Jx},a.V⟩
structure Started(j:C Ab)(c a:Ai)(b d:D):Prop where
 X:BY j a
 Dj:H4 c a (λg h=>g=b/\h=d)
 A7:a.Ac.l=c.Ac.l
 Am:a.Am=c.Am
 AA:a.AA=c.AA+1
 CQ:∀e,Bs (a.at b) e=Bs (c.at b) e
 AS:0<D9 (a.at b) d
 Ky:∀f,(EI (a.at b) d f).Ak=0/\Ek (a.at b) d f=EQ
 Hf:∀i,¬CW a i b d
def j1{q:C Ab}{b:Ai}(g:BY q b){a:D}(n:a<b.Ac.l)(E:c<(b.at a).AS.l)(v:D9 (b.at a) c=0){e:K}(y:0<e)(G:b.AA≠6000):Started q b (DO b ⟨a,c⟩ e) a c:=by
 have p:∀d,D9 {b.at a with AS:=(b.at a).AS.set c e} d=if d=c then e else D9 (b.at a) d:=λd=>by
  unfold D9;show(((b.at a).AS.set c e)[d]?).g 0=_;by_cases H:d=c;.grind
  .grind
 have m:DP b a {b.at a with AS:=(b.at a).AS.set c e}:={
  hi:=n
  En:=⟨B,B,B,B,B,B,Aed,B⟩
  next:=B
  Ar:=⟨λ_ _=>B,λ_ _ _=>B⟩
  vp:=g.W.vp a
  vo:=g.W.vo a
  f0:=λd=>by
   rw[p];split;.omega
   .exact g.W.f0 a d
  fm:=λd k=>by grind
  Fk:=λd k h=>by
   rw[p]at k;split at k;.omega
   .exact g.W.Fk a d k h
  Fo:=λj d l=>(g.W.Fo j a d l).2
  B1:=g.W.B1 a
  AV:=(DP.refl g.W n).AV}
 have w:DO b ⟨a,c⟩ e=⟨(b.AJ a {b.at a with AS:=(b.at a).AS.set c e}).Ac,b.Am,b.round,b.AA+1⟩:=B;have z:=g.W.AA;have t:∀h,(DO b ⟨a,c⟩ e).at h=(b.AJ a {b.at a with AS:=(b.at a).AS.set c e}).at h:=λh=>B;have o:(DO b ⟨a,c⟩ e).at a={b.at a with AS:=(b.at a).AS.set c e}:=by rw[t,HE n]
 have i:=m.Dj (g:=λs u=>s=a/\u=c) P;exact{
  X:=(g.AJ m).MZ (f:=b.round) (c:=b.AA+1) (by omega)
  Dj:=⟨i.A7,i.round,i.En,i.Ar,i.Qs⟩
  A7:=Ej ..
  Am:=B
  AA:=B
  CQ:=λx=>by rw[o];rfl
  AS:=by grind
  Ky:=λh=>by rw[o];exact g.W.Fk a c v h
  Hf:=λj l=>by have:=(g.W.Fo j a c (m.Hf.1 l:CW b j a c)).1;omega}
def XI{b:ED}(c:b.op=1\/b.op=3\/b.op=4):Eh a b=if(BE a.Am b).e≠0 then(a,AO,(BE a.Am b).e)else(⟨a.Ac,(BE a.Am b).m,a.round,a.AA⟩,(BE a.Am b).v,0):=by
 unfold Eh;have d:(BE a.Am b).F1=[]:=by unfold BE;grind
 grind
def wg{b:C _}{a:ED}(c:a.op=3)(d:a.Ct∉Dm b):a.Ct∈Dm (BE b a).m->(BE b a).v.Ak=0:=by
 unfold BE;rw[Ad (by omega),Ad (by omega),Af c]
 unfold Eb
 repeat' split
 all_goals first|grind|exactλ_=>B
structure TX(f:C Ab)(b a:Ai)(d e:D)(c:N):Prop where
 X:BY f a
 Ac:a.Ac=b.Ac
 round:a.round=b.round
 AA:a.AA=b.AA
 ok:B5 a.Am.l c
 Ky:((1000*d+e:D):K)∈Dm a.Am->c.Ak=0
def bi{k:C Ab}(f:BY k a)(w:c<a.Ac.l)(x:d<1000)(u:0<D9 (a.at c) d)(v:(EI (a.at c) d 0).Ak=0)(l:((1000*c+d:D):K)∉Dm a.Am){b:ED}(m:b.op=1\/b.op=3\/b.op=4)(j:B5 a.Am.l b.a)(o:B5 a.Am.l b.b)(t:b.op=3->b.Ct=(1000*c+d:D)/\IM k (a.at c) d=12)(p:(Eh a b).2.2=0):TX k a (Eh a b).1 c d (Eh a b).2.1:=by
 rw[XI m]at p⊢;by_cases s:(BE a.Am b).e=0
 .have n:¬(BE a.Am b).e≠0:=by grind
  rw[Ad n];have e:RU a.Am b:=by
   rcases m with g|g|g;.exact lf f.W.Fj g j
   .exact wj f.W.Fj g j o
   .exact Aac f.W.Fj g j
  refine⟨f.Yh e.Fj e.A7 (e.Jx f.W.Jx ?_) (λr h=> ?_),B,B,B,e.Eo,λh=> ?_⟩;.grind
  .rcases e.sub r h with i|⟨i,rfl⟩<;>grind
  .rcases e.sub _ h with i|⟨i,q⟩;.grind
   .rw[q]at h l;exact wg i l h
 grind
def nf{k:C _}{h:Ab}{j:D}{a:Au}(e:H2 k h j a)(l:a.op=1\/a.op=2\/a.op=3){d:N}(m:B5 b d):B5 b (M_ a d):=by
 unfold M_;by_cases i:d.Ak=5;.grind
 .rw[Ad i];by_cases f:a.op=3;.rw[Af f];rfl
  .rw[Ad f];by_cases c:a.op=2;.rw[Af c];rcases e.num c with g|g<;>rw[g]<;>rfl
   .rw[Ad c];exact gZ b (e.B6 (by omega))
def rU{h:C Ab}{b:Ai}(i:BY h b)(m:e<b.Ac.l)(n:d<1000)(k:0<D9 (b.at e) d)(l:(EI (b.at e) d 0).Ak=0)(j:((1000*e+d:D):K)∉Dm b.Am){x:Ab}{a:Au}(q:H2 h x d a)(I:IM h (b.at e) d=a.op)(H:¬(a.op=8\/a.op=9))(F:a.op≠11)(G:a.op≠5){f:C N}(E:∀g∈f,B5 b.Am.l g)(c:(E7 b ⟨e,d⟩ a f).2.2=0):TX h b (E7 b ⟨e,d⟩ a f).1 e d (E7 b ⟨e,d⟩ a f).2.1:=by
 have M:∀o,B5 b.Am.l (Cu f o):=λo=>by
  unfold Cu
  cases w:f[o]?with
  |none=>exact It _
  |some g=>grind
 have p:∀g,B5 b.Am.l g->TX h b b e d g:=λg w=>⟨i,B,B,B,w,P⟩;have J:=q.op;unfold E7 at c⊢;by_cases v:a.op=4;.rw[Af v];exact p _ (vo E)
 rw[Ad v]at c⊢;by_cases y:a.op=6;.grind
 rw[Ad y]at c⊢;by_cases z:a.op=7;.grind
 rw[Ad z]at c⊢;by_cases r:a.op=10;.rw[Af r]at c⊢;exact bi i m n k l j P P (It _) P c
 rw[Ad r]at c⊢;by_cases s:a.op=12;.rw[Af s]at c⊢;exact bi i m n k l j P P P P c
 rw[Ad s]at c⊢;by_cases t:a.op=13;.rw[Af t]at c⊢;exact bi i m n k l j P P (It _) P c
 rw[Ad t]at c⊢;by_cases u:a.op=14;.rw[Af u];exact p _ (nA P)
 rw[Ad u]at c⊢;exact p _ (nf q (by omega) P)
def TX.Dj{i:C _}{c d:Ai}(b:TX i c d g h j)(f:D->D->Prop):H4 c d f:=by
 have e:∀a,d.at a=c.at a:=λa=>by unfold Ai.at;rw[b.Ac]
 exact⟨by rw[b.Ac];grind,b.round,λa _=>by rw[e];exact DQ.refl _,λa _=>by rw[e];exact IW.refl _,P⟩
structure kP(g:C Ab)(b a:Ai)(e f:D):Prop where
 X:BY g a
 Dj:H4 b a (λc d=>c=e/\d=f)
 AA:a.AA=b.AA+1
def fi{y:C Ab}(Q:BD y){u:Ai}(R:BY y u)(xl:c<u.Ac.l)(xm:IP y (u.at c) n=L){H:K}(xO:0<H)(w:(F6 y u ⟨c,n⟩ H).2=0):kP y u (F6 y u ⟨c,n⟩ H).1 c n:=by
 have xa:u.AA≠6000:=λo=>by unfold F6 at w;grind
 let⟨xq,xr,s,x5,xo,Y,xP,Z,xD⟩:=W3 (m:=⟨y,[],0,.h⟩) Q R xl xm
 rw[ZW xD H xa]at w⊢;have xU:=jk R xP Z;have e:=j1 R xl P xU xO xa;have xn:=Q.Bc xq xr xo.hb;have xe:=xn.Ax n s Y;have x3:=xe.some Q;have yb:=(AdN.1 Y).1;have ya:=xn.Av;have xQ:n<1000:=by omega
 have G:c<(DO u ⟨c,n⟩ H).Ac.l:=by rw[e.A7];grind
 have xd:=xo.En (e.Dj.En c xl);have xR:IM y ((DO u ⟨c,n⟩ H).at c) n=s.op:=by unfold IM;rw[xd.Ca,Y];rfl
 have x9:((1000*c+n:D):K)∉Dm u.Am:=λx=>by
  let⟨I,F,xx,xy,xz,xA,xB,xC⟩:=R.W.AV _ x
  grind
 have yi:∀xb∈s.A3.m (Bs (u.at c)),B5 u.Am.l xb:=λxb xS=>by obtain⟨j,_,rfl⟩:=Aeu.1 xS;exact R.W.Bs c j
 have yd:∀h,B5 u.Am.l (Cu (s.A3.m (Bs (u.at c))) h):=λh=>by
  unfold Cu
  cases x:(s.A3.m (Bs (u.at c)))[h]?with
  |none=>exact It _
  |some xb=>grind
 have x4:s.op=8\/s.op=9->(Cu (s.A3.m (Bs (u.at c))) 0).Ak≠0:=wr Z;generalize s.A3.m (Bs (u.at c))=k at*;generalize DO u ⟨c,n⟩ H=g at*;have xs:=e.Am;by_cases U:s.op=8\/s.op=9
 .rw[Af U]at w⊢;let⟨I,F,xt,xi,x6,x7,x8⟩:=xe.call U
  unfold Nb at w⊢;by_cases T:(Cu k 0).Ak=5
  .have xH:¬(Cu k 0).Ak≠5:=by grind
   rw[Ad xH]at w⊢;simp only[AdR]at w⊢;let⟨z,X⟩:=Bb (b:=(g.at c).AG) (a:=n) (by rw[xd.AG];grind)
   rw[X,Aeg];have V:∀j h,EI {g.at c with AG:=(g.at c).AG.set n (z.m λ_=>Cu k 0)} j h=EI (g.at c) j h\/(j=n/\(EI {g.at c with AG:=(g.at c).AG.set n (z.m λ_=>Cu k 0)} j h=Cu k 0\/EI {g.at c with AG:=(g.at c).AG.set n (z.m λ_=>Cu k 0)} j h=AO)):=λj h=>by
    unfold EI E3;show(((((g.at c).AG.set n (z.m λ_=>Cu k 0))[j]?).g [])[h]?).g AO=_\/(j=n/\((((((g.at c).AG.set n (z.m λ_=>Cu k 0))[j]?).g [])[h]?).g AO=_\/(((((g.at c).AG.set n (z.m λ_=>Cu k 0))[j]?).g [])[h]?).g AO=_));by_cases o:j=n
    .subst o
     right
     rw[Aex (AdN.1 X).1,Aeg,Aeo]
     refine⟨B,?_⟩
     cases z[h]?with
     |none=>grind
     |some xb=>grind
    .grind
   have xp:DP g c {g.at c with AG:=(g.at c).AG.set n (z.m λ_=>Cu k 0)}:={
    hi:=G
    En:=⟨B,B,B,B,B,by
     refine AeP λj=> ?_;show((((g.at c).AG.set n (z.m λ_=>Cu k 0))).m List.length)[j]? =_;rw[Aeo,Aeo];by_cases o:j=n;.subst o;rw[Aex (AdN.1 X).1,X];show A ((z.m _).l)=A z.l;rw[Ad9]
     .grind,B,B⟩
    next:=B
    Ar:=⟨λ_ _=>B,λj h x=>by
     rcases V j h with o|⟨o,_⟩;.grind
     .subst o;exact BF (e.Ky h).1 x⟩
    vp:=e.X.W.vp c
    vo:=λj h=>by
     rcases V j h with o|⟨_,o|o⟩;.rw[o];exact e.X.W.vo c j h
     .grind
     .rw[o];exact It _
    f0:=e.X.W.f0 c
    fm:=λ_ x=>x
    Fk:=λj x h=>by
     have x:D9 (g.at c) j=0:=x;rcases V j h with o|⟨o,_⟩;.rw[o];exact(e.X.W.Fk c j x h)
     .subst o;have:=e.AS;omega
    Fo:=λJ j E h=>by
     rcases V j h with o|⟨o,_⟩;.rw[o];exact(e.X.W.Fo J c j E).2 h
     .subst o;exact BF E (e.Hf J)
    B1:=e.X.W.B1 c
    AV:=λj xa Z=>by
     rcases V j 0 with o|⟨o,_⟩;.rw[o];exact(DP.refl e.X.W G).AV j xa Z
     .grind}
   exact⟨e.X.AJ xp,e.Dj.AI (xp.Dj λ_ _=>B),e.AA⟩
  .rw[Af (T:(Cu k 0).Ak≠5)]at w⊢;unfold EO at w⊢;by_cases xK:g.Ac.l=400;.grind
   .rw[Ad xK]at w⊢;rw[xt,AdR,xi]at w⊢;simp only[]at w⊢;have yc:=e.X.W.sh.A7;have xF:=e.X.W.sh.Km (g:={Dl y F I c n 0 with An:=(BG F.An.n AO).set 0 (Cu k 0)}) (u:=g.Am) (w:=g.round) (q:=g.AA) (by omega) ⟨I,F,Vi Q xi _ _ _ _ P⟩ ⟨c,n,g.at c,xr,s,B,B,G,(Di G),⟨xq,xd⟩,Y,U,xt⟩ B (by show 0<=0/\0<=_;omega);have p:=ii (n:=y) (a:=F) (j:=I) (h:=c) (f:=n) (i:=0) (c:=Cu k 0) (d:=g.Am.l) B B (by grind) Om (Q.Bc I F xi).An.1;generalize({Dl y F I c n 0 with An:=(BG F.An.n AO).set 0 (Cu k 0)})=J at*;have xW:(Ai.mk (g.Ac++[J]) g.Am g.round g.AA).Ac.l=g.Ac.l+1:=by grind
    refine⟨⟨(e.X.W.Km xF p G ⟨e.AS,λh=>by rw[(e.Ky h).2];exact⟨λ_=>B,λ_=>(e.Ky h).1⟩⟩ (λxN E=>BF E (e.Hf xN))),λj xw xc h M=> ?_⟩,e.Dj.AI ⟨by grind,B,λh xu=>by rw[FQ,Ad (by omega)];exact DQ.refl _,λh xu=>by rw[FQ,Ad (by omega)];exact IW.refl _,λh j xu _=>by rw[FQ,Ad (by omega)]⟩,e.AA⟩;by_cases o:j=g.Ac.l;.subst o;rw[FQ,Af B,p.Az]at M;omega
    .have xT:=h.1;rw[xW]at xT;have xV:CW g j xw xc:=by have xj:=h.2.1;have xk:=h.2.2;rw[FQ,Ad o]at xj xk;exact⟨by omega,xj,xk⟩
     rw[FQ,Ad o]at M;let⟨xG,xj,xk⟩:=e.X.V j xw xc xV M
     exact⟨xG,by grind,by rw[FQ,Ad (by omega)];grind⟩
 rw[Ad U]at w⊢;by_cases xh:s.op=11
 .rw[Af xh]at w⊢;unfold Eh at w⊢;by_cases xI:(BE g.Am ⟨2,Cu k 0,Cu k 1,Cu k 2,0⟩).e=0
  .have xJ:¬(BE g.Am ⟨2,Cu k 0,Cu k 1,Cu k 2,0⟩).e≠0:=by grind
   rw[Ad xJ];have p:=kG e.X.W.Fj (a:=⟨2,Cu k 0,Cu k 1,Cu k 2,0⟩) B (by grind) (by grind) xI;let⟨x1,x2⟩:=p.kj e.X.W.Jx
   let⟨xY,xZ,yf,yg,x0,yh,ye⟩:=kn (e.X.Yh p.Fj p.A7 (p.Jx e.X.W.Jx P) (λxX xm=>.i (by
    rcases p.sub xX xm with h|⟨h,_⟩;.grind
    .grind))) x1 (λM xv=>by
    have x:=p.F1 M xv;let⟨j,xc,xx,xy,xz,xA,xB,xC⟩:=e.X.W.AV _ x.2.1
    exact⟨j,xc,xx,xy,xz,xA,xB,xC,by rw[x.2.2];exact(show B5 g.Am.l (Cu k 2) by rw[xs];grind).up p.A7,x2 M xv⟩)
   refine⟨xY,e.Dj.AI (H4.AI (g:=⟨g.Ac,(BE g.Am ⟨2,Cu k 0,Cu k 1,Cu k 2,0⟩).m,g.round,g.AA⟩) ⟨CK _,B,λ_ _=>DQ.refl _,λ_ _=>IW.refl _,λ_ _ _ _=>B⟩ (xZ.sub P)),?_⟩;exact x0.t e.AA
  grind
 rw[Ad xh]at w⊢;by_cases T:s.op=5
 .rw[Af T];let⟨xg,xf⟩:=(⟨G,by
   rw[xs];unfold FZ;split;.grind
   .split;.grind
    .exact NW _ (by omega),(e.Ky _).1,e.AS,e.Hf,P⟩:P4 g c n (FZ (Cu k 0) (Cu k 1)).1.n (FZ (Cu k 0) (Cu k 1)).2).cU e.X
  exact⟨xg,e.Dj.AI (xf.sub P),e.AA⟩
 rw[Ad T]at w⊢;by_cases xL:(E7 g ⟨c,n⟩ s k).2.2=0
 .have xM:¬(E7 g ⟨c,n⟩ s k).2.2≠0:=by grind
  rw[Ad xM];have p:=rU e.X G xQ e.AS (e.Ky 0).1 (by grind) xe xR U xh T (by grind) xL;have W:∀h,(E7 g ⟨c,n⟩ s k).1.at h=g.at h:=λh=>by unfold Ai.at;rw[p.Ac]
  have xE:P4 (E7 g ⟨c,n⟩ s k).1 c n 0 (E7 g ⟨c,n⟩ s k).2.1:=⟨by rw[p.Ac];grind,p.ok,by rw[W];exact(e.Ky 0).1,by rw[W];exact e.AS,λJ E=>e.Hf J ⟨by have:=E.1;rw[p.Ac]at this;grind,by rw[<-W];exact E.2.1,by rw[<-W];exact E.2.2⟩,λ_=>p.Ky⟩;let⟨xg,xf⟩:=xE.cU p.X
  refine⟨xg,e.Dj.AI ((p.Dj _).AI (xf.sub P)),?_⟩;exact p.AA.t e.AA
 grind
def bh{e:C Ab}{b:AK}{f:A5}(g:f∈Kf e b c d):∃a:D,f=⟨c,a⟩/\a<d/\IP e b a=L:=by obtain⟨a,h,rfl⟩:=Aeu.1 g;grind
def bg{g:C _}{f:C _}{h:A5}:∀{e:D},h∈JG g f e->∃(c d:D)(b:AK),h=⟨c,d⟩/\c<e/\f[c]? =A b/\IP g b d=L
 |0,a=>by cases a
 |e+1,a=>by
  rcases Aej.1 a with a|a
  .let⟨c,d,b,j,k,l⟩:=bg a
   grind
  .cases i:f[e]?with
   |none=>grind
   |some b=>
    rw[i]at a;let⟨d,m,_,n⟩:=bh a
    grind
def Ve{d:C _}{c:Ai}{e:A5}(i:e∈Br d c):∃a b:D,e=⟨a,b⟩/\a<c.Ac.l/\IP d (c.at a) b=L:=by
 let⟨a,b,j,f,g,h,k⟩:=bg i
 exact⟨a,b,f,g,by rw[DK h];grind⟩
def ip(d:C Ab)(b:AK)(c:D):∀a,(Kf d b c a).Nodup
 |0=>Afp
 |a+1=>by
  rw[cv];refine AfZ.2 ⟨ip d b c a,?_,λg f h k e=> ?_⟩;.grind
  .subst e;let⟨l,i,j,_⟩:=bh f
   grind
def XO(c:C Ab)(b:C AK):∀a,(JG c b a).Nodup
 |0=>Afp
 |a+1=>by
  refine AfZ.2 ⟨XO c b a,?_,λi g j d f=> ?_⟩
  .split;.exact ip c _ a _
   grind
  .subst f
   let⟨n,o,e,k,m,_⟩:=bg g
   cases h:b[a]?with
   |none=>grind
   |some e=>
    rw[h]at d;let⟨p,l,_⟩:=bh d
    grind
def rO{a b:AK}(g:IW a b){f:Au}{e:K}(c:FH a f e=L):FH b f e=L:=by
 have h:∀d,Hi a d=L->Hi b d=L:=λd c=>by rw[cI]at c⊢;rw[g.Eo c];grind
 unfold FH at*;grind
def ce{g:C Ab}{c f:Ai}{j:D->D->Prop}(m:BY g c)(e:H4 c f j){a:D}(d:a<c.Ac.l)(u:¬j a b)(q:IP g (c.at a) b=L):IP g (f.at a) b=L:=by
 let⟨v,w,y,o,h,s,x,t⟩:=ji m d q
 have k:=e.En a d;let⟨p,r⟩:=Bb (b:=(f.at a).AS) (a:=b) (by rw[k.AS];grind)
 have n:p=o:=by have:=e.Qs a b d u;unfold D9 at this;grind
 unfold IP;rw[(h.En k).ha,AdR,h.hb];simp only[];rw[s,r,n];exact rO (e.Ar a d) t
structure kR(d:C Ab)(a b:Ai)(c:D):Prop where
 X:BY d b
 Dj:H4 ⟨a.Ac,a.Am,a.round+1,a.AA⟩ b (λf g=>∃e,e<c/\(Br d a)[e]? =A ⟨(f:K),(g:K)⟩)
 AA:b.AA=a.AA+(c:K)
def Oy{b:C Ab}(m:BD b){a:Ai}(e:BY b a)(r:0<=a.round):∀c,c<=(Br b a).l->(C3 b (Br b a) (a.round+1) ⟨a.Ac,a.Am,a.round+1,a.AA⟩ c).2=0->kR b a (C3 b (Br b a) (a.round+1) ⟨a.Ac,a.Am,a.round+1,a.AA⟩ c).1 c
 |0,_,_=>⟨e.MZ e.W.AA,H4.refl _ _,by show a.AA=a.AA+0;omega⟩
 |c+1,E,g=>by
  let⟨G,h⟩:=Bb (b:=Br b a) (a:=c) (by omega)
  rw[ZY h]at g⊢;by_cases n:(C3 b (Br b a) (a.round+1) ⟨a.Ac,a.Am,a.round+1,a.AA⟩ c).2≠0;.grind
  rw[Ad n]at g⊢;have d:=Oy m e r c (by omega) (AdS n);obtain⟨p,q,rfl,o,s⟩:=Ve (AdU h);have v:¬∃k,k<c/\(Br b a)[k]? =A ⟨p,q⟩:=by
   rintro⟨k,F,t⟩
   have u:(Br b a).Nodup:=XO b a.Ac _
   have:=(Af6 (by omega) u).1 (t.t h.s)
   omega
  have f:=fi m d.X (Aen o d.Dj.A7) (ce (e.MZ e.W.AA:BY b ⟨a.Ac,a.Am,a.round+1,a.AA⟩) d.Dj (a:=p) (b:=q) o v s) (by omega) g;exact⟨f.X,(d.Dj.sub P).AI (f.Dj.sub λw x ⟨y,z⟩=>⟨c,by omega,by grind⟩),by rw[f.AA,d.AA];omega⟩
def rp{c:C Ab}(b:D):(El c a b).1.Am=a.Am/\(El c a b).1.round=a.round/\(El c a b).1.AA=a.AA:=by
 have i:∀a,(Cj c a b).1.Am=a.Am/\(Cj c a b).1.round=a.round/\(Cj c a b).1.AA=a.AA:=λa=>by unfold Cj;simp only[];split<;>exact⟨B,B,B⟩
 have j:∀a,(EU c a b).1.Am=a.Am/\(EU c a b).1.round=a.round/\(EU c a b).1.AA=a.AA:=λa=>⟨B,B,B⟩;have k:∀a d,(JI a b d).1.Am=a.Am/\(JI a b d).1.round=a.round/\(JI a b d).1.AA=a.AA:=λa d=>⟨B,B,B⟩;have l:∀a,(Gu c a b).1.Am=a.Am/\(Gu c a b).1.round=a.round/\(Gu c a b).1.AA=a.AA:=λa=>by
  unfold Gu;simp only[];split
  .split;.grind
   .exact(λa e g f d h=>by
  unfold EO;split;.grind
  .split<;>grind:∀(a:Ai) e g f d h,(EO c a e g f d h).1.Am=a.Am/\(EO c a e g f d h).1.round=a.round/\(EO c a e g f d h).1.AA=a.AA) a _ _ _ _ _
  .grind
 have m:∀a,(Gv c a b).1.Am=a.Am/\(Gv c a b).1.round=a.round/\(Gv c a b).1.AA=a.AA:=λa=>⟨B,B,B⟩;have n:∀a,(ER c a b).1.Am=a.Am/\(ER c a b).1.round=a.round/\(ER c a b).1.AA=a.AA:=λa=>by
  unfold ER;simp only[];split;.grind
  .split;.grind
   .split;.grind
    .grind
 unfold El;simp only[];split<;>grind
def iQ{c:C _}{a:Ai}:∀b,(B9 c a b).1.Am=a.Am/\(B9 c a b).1.round=a.round/\(B9 c a b).1.AA=a.AA
 |0=>⟨B,B,B⟩
 |b+1=>by
  have f:=iQ (c:=c) (a:=a) b;rw[Rx];split;.grind
  .have d:=rp (c:=c) (a:=(B9 c a b).1) b;grind
def gF{d:C _}{f:D}:∀{g:D}{a:Ai}{c:Ai×K},IF d f g a=A c->c.1.Am=a.Am/\c.1.round=a.round/\c.1.AA=a.AA
 |0,a,c,b=>by cases b
 |g+1,a,c,b=>by
  have h:=iQ (c:=d) (a:=a) f;unfold IF at b;split at b;.grind
  .split at b;.have:=gF b;grind
   grind
def UH{e:C Ab}{b:Ai×K}(c:Ib e f g a=A b):b.1.Am=a.Am/\b.1.round=a.round/\b.1.AA=a.AA:=by
 unfold Ib at c
 cases d:IF e f g a with
 |none=>grind
 |some h=>rw[d]at c;have:=gF d;grind
structure G8(b:C Ab)(a:Ai):Prop where
 X:BY b a
 r0:0<=a.round
 rf:a.round<=a.AA
 Ld:1<=a.Ac.l
def bw{c:C _}(f:BD c){i:Ai}(j:BY c i):∀b∈i.Ac,P2 c b:=λb l=>by
 let⟨q,n⟩:=Aff.1 l
 let⟨g,h,a⟩:=j.W.sh.BC q b n
 have d:=f.Bc g h a.hb;have:=d.Av;refine⟨g,h,a.ha,a.hb,a.AS,by omega,λs p=> ?_⟩;let⟨r,o⟩:=Aff.1 p
 have e:=d.Ax r s o;have t:=e.some f;exact⟨by omega,λk m=>a.Eo (e.A3 k m),P⟩
variable{l:D}
def VJ{b:C Ab}(g:BD b)(d:G8 b a)(p:(Br b a).l≠0){f:Ai×K}(c:KH b k l a=A f)(m:f.2=0):G8 b f.1:=by
 unfold KH at c;simp only[]at c;by_cases h:(C3 b (Br b a) (a.round+1) ⟨a.Ac,a.Am,a.round+1,a.AA⟩ (Br b a).l).2=0;.rw[Ad (λj=>j h:¬(C3 b _ _ _ _).2≠0)]at c;have e:=Oy g d.X d.r0 _ Om h;have i:=UH c;have n:f.1.round=a.round+1:=i.2.1.t e.Dj.round;have o:f.1.AA=a.AA+(Br b a).l:=i.2.2.t e.AA;have:=d.r0;have:=d.rf;exact⟨aw g e.X c,by omega,by omega,Aem (Aem d.Ld (e.Dj.A7:a.Ac.l<=_)) (au g e.X.W.sh c).1.A7⟩
 grind
def jx{c:CI}(d:BD c.l)(w:D):P5 c w (G8 c.l)where
 PQ:=λb a=>a.X.W.sh
 Av:=λb a=>bw d a.X
 round:=λb a=>⟨a.r0,by have:=a.rf;have:=a.X.W.AA;omega⟩
 Su:=λb a n I g f=>by
  have F:=(AdN.1 g).1;have e:=Oy d a.X a.r0 n (by omega) f;obtain⟨h,k,rfl,m,u⟩:=Ve (AdU g);have y:¬∃l,l<n/\(Br c.l b)[l]? =A ⟨h,k⟩:=by
   rintro⟨l,G,v⟩
   have x:(Br c.l b).Nodup:=XO c.l b.Ac _
   have:=(Af6 (by omega) x).1 (v.t g.s)
   omega
  let⟨z,q,o,E,_,_,_,_,p⟩:=W3 d e.X (Aen m e.Dj.A7) (ce (a.X.MZ a.X.W.AA:BY c.l ⟨b.Ac,b.Am,b.round+1,b.AA⟩) e.Dj (a:=h) (b:=k) m y u)
  exact⟨e.Dj.round,h,k,_,q,o,_,p⟩
 Th:=λb a f=>(Oy d a.X a.r0 _ Om f).X.W.sh
 Dj:=λb o H a t r s=>VJ d a t r s
def jr{a:D}{e:Ah}(f:b+d<=a):B5 a (EY b c d e):=by
 unfold EY;split;.show BK (b+c) 0 (a-1)=L;unfold BK;simp only[AdO,AdV];omega
 .split<;>rfl
def hE{g i:D}{f:Ah}{d:AE}:∀{c:C _}{b:D},d∈Jd g i f b c->d.AV=[]/\∃(e:K)(h:D),e∈c/\d.I=[EA e,EY g h i f]
 |[],b,a=>by cases a
 |j::c,b,a=>by
  rcases Ad6.1 a with rfl|a;.exact⟨B,j,_,P,B⟩
  .let⟨k,e,h,l,m⟩:=hE a
   grind
structure Bi(a:C AE×C N):Prop where
 st:∀c∈a.1,c.AV=[]/\c.I.l<=100/\∀b∈c.I,B5 a.1.l b
 vs:∀b∈a.2,B5 a.1.l b
def Bi.Dj{b:C _×C _}(f:Bi b){a:C K×Ah}(i:a.1.all I7=L):Bi (NV b a):=by
 have g:(NV b a).1.l=b.1.l+a.1.l:=by show(b.1++Jd _ _ _ _ _).l=_;rw[AdY,U5]
 refine⟨λo m=> ?_,λc e=> ?_⟩
 .rw[g];rcases Aej.1 m with d|d;.have:=f.st o d;exact⟨P,Om,λc e=>(this.2.2 c e).up (by omega)⟩
  .let⟨j,h,n,k,l⟩:=hE d
   refine⟨j,by grind,λc e=> ?_⟩;rw[l]at e;have:c=EA h\/c=EY b.1.l n a.1.l a.2:=by grind
   rcases this with rfl|rfl;.exact Aei.1 i h k
   .exact jr Om
 .rw[g];rcases Aej.1 e with d|d;.exact(f.vs c d).up (by omega)
  .have:c=EY b.1.l 0 a.1.l a.2:=by grind
   subst this;exact jr (c:=0) Om
def dM:∀{b:C (C K×Ah)}{a:C AE×C N},Bi a->(∀d∈b,d.1.all I7=L)->Bi (b.foldl NV a)
 |[],a,c,_=>c
 |d::b,a,c,e=>dM (b:=b) (a:=NV a d) (c.Dj P) P
def wm{a:C AE}(c:∀b∈a,b.AV=[]):Dm a=[]:=by
 unfold Dm
 induction a with
 |nil=>rfl
 |cons b e d=>grind
def dV{a:AQ}(l:a.l.l=a.BT.l)(f:(Co a.l a.BT).2.2=0):Ft (Co a.l a.BT).1/\Dm (Co a.l a.BT).1=[]/\∀p∈(Co a.l a.BT).2.1,B5 (Co a.l a.BT).1.l p:=by
 unfold Co at f⊢;rw[Ad (by omega)]at f⊢;by_cases e:(a.l.all λg=>g.all I7)=Aa;.grind
 rw[Ad e]at f⊢;by_cases k:400<D3 a.l;.grind
 rw[Ad k];have e:(a.l.all λg=>g.all I7)=L:=by grind
 have b:Bi (Kp (a.l.zip a.BT)):=dM ⟨P,P⟩ λo m=>Aei.1 e o.1 (List.of_mem_zip m).1;have j:=Uj (b:=a.l) (c:=a.BT) (a:=a.l.l) Om l;rw[Aeq (by grind),Aeq Om]at j;have h:=wm λd c=>(b.st d c).1;refine⟨Pf.2 ⟨by grind,λd c=>⟨(b.st d c).2.1,OO.2 ⟨(b.st d c).2.2,λq n=>by rw[(b.st d c).1]at n;grind⟩⟩,?_⟩,h,b.vs⟩;show BH (Kp _).1<=6000;rw[PN,h];grind
def cy{e:C Ab}(t:BD e){b:AQ}(m:JS (I8 e) b=0)(n:(Co b.l b.BT).2.2=0):BY e (Ip e b):=by
 let⟨v,w,y,U,E,o,u,J⟩:=cx t m n
 let⟨M,N,Q,R⟩:=Um m
 let⟨s,I,X⟩:=dV (a:=b) (by omega) n
 have g:(Ip e b).at 0={Dl e w v (-1) (-1) 0 with An:=D4::(Co b.l b.BT).2.1}:=by unfold Ip;rw[E,y];rfl
 have l:∀a,1<=a->(Ip e b).at a=Zi:=λa o=>dp o;have F:∀f h c,¬CW (Ip e b) f h c:=λf h c j=>by
  have k:f<1:=j.1;have z:f=0:=by omega
  subst z;have:=j.2.1;rw[g]at this;have this:(-1:K)=(h:K):=this;omega
 have G:∀a d,B5 (Co b.l b.BT).1.l (GQ ((Ip e b).at a) d):=λa d=>by
  by_cases i:1<=a;.rw[l a i];exact It _
  .have:a=0:=by omega
   subst this
   rw[g]
   show B5 _ (((D4::(Co b.l b.BT).2.1)[d]?).g AO)
   cases d with
   |zero=>rfl
   |succ d=>
    show B5 _ (((Co b.l b.BT).2.1[d]?).g AO)
    cases V:(Co b.l b.BT).2.1[d]?with
    |none=>exact It _
    |some W=>grind
 have r:∀a c d,EI ((Ip e b).at a) c d=AO:=λa c d=>by
  by_cases i:1<=a;.rw[l a i];rfl
  .have:a=0:=by omega
   subst this;rw[g];exact T9 _ _ _ _ _
 have Y:∀a c d,Ek ((Ip e b).at a) c d=EQ:=λa c d=>by
  by_cases i:1<=a;.rw[l a i];rfl
  .have:a=0:=by omega
   subst this;rw[g];exact T9 _ _ _ _ _
 have T:∀a c,D9 ((Ip e b).at a) c=0:=λa c=>by
  by_cases i:1<=a;.rw[l a i];rfl
  .have:a=0:=by omega
   subst this;rw[g];exact ch _ _ _
 exact⟨{
  sh:=u
  Fj:=s
  AA:=⟨Afd 0,by show 0<=6000;omega⟩
  vp:=G
  vo:=λa c d=>by rw[r];exact It _
  p0:=λa k=>by
   have k:a<1:=k;have:a=0:=by omega
   subst this;rw[g];show 3≠0;omega
  f0:=λa c=>by grind
  Fk:=λa c _ d=>⟨by rw[r];rfl,P⟩
  Fo:=λf h c j=>P
  B1:=λa c d=>P
  KN:=λf S h c j=>P
  L4:=λa k p=>by
   have k:a<1:=k;have:a=0:=by omega
   subst this;rw[g]at p;exact BF B p
  AV:=λH q=>by have q:H∈Dm (Co b.l b.BT).1:=q;grind
  Jx:=by show(Dm (Co b.l b.BT).1).Nodup;rw[I];grind},λf h c j=>BF j (F f h c)⟩
def PL{b:C Ab}{m:D}{c:AQ}(k:D5 b=0->BD b){f:Ai×K}(a:JA b l m c=A f)(n:f.2=0):D5 b=0/\G8 b f.1:=by
 unfold JA at a;by_cases h:D5 b=0
 .rw[Ad Om]at a;by_cases i:JS (I8 b) c=0
  .rw[Ad Om]at a;by_cases j:(Co c.l c.BT).2.2=0;.rw[Ad Om]at a;have d:=k h;have g:=cy d i j;have e:=UH a;exact⟨h,aw d g a,by rw[e.2.1];exact Afd 0,by rw[e.2.1,e.2.2];exact Afd 0,(au d g.W.sh a).1.A7⟩
   grind
  grind
 grind
def jz{b:C Ab}(j:BD b){g h:D}:∀{f:D}{c:Ai}{d:Ai×K},G8 b c->HW b g h f c=A d->d.2=0->G8 b d.1
 |0,c,d,i,a,_=>by cases a
 |f+1,c,d,i,a,n=>by
  unfold HW at a;by_cases k:(Br b c).l=0;.grind
  .rw[Ad k]at a
   cases l:KH b g h c with
   |none=>grind
   |some e=>
    rw[l]at a;have a:(if e.2≠0 then A e else HW b g h f e.1)=A d:=a;by_cases m:e.2=0;.rw[Ad Om]at a;exact jz j (VJ j i k l m) a n
    grind
def WZ{a:C _}{i:AQ}(m:D5 a=0->BD a){c:Ai×K}(b:Hr a d e h i=A c)(l:c.2=0):BD a/\G8 a c.1:=by
 unfold Hr at b
 cases g:JA a d e i with
 |none=>grind
 |some f=>
  rw[g]at b;have b:(if f.2≠0 then A f else HW a d e h _)=A c:=b;by_cases k:f.2=0
  .rw[Ad Om]at b;let⟨n,j⟩:=PL m g k
   exact⟨P,jz P j b l⟩
  grind
def jD{c:C Ab}(s:Cl c){w:D}(t:k=400)(g:AQ)(p:g.l.l<=2000000)(q:D3 g.l<=100000000){e:Ai×K}(h:Hr c k l w g=A e):AY 12 [Z Ab.c c,.S (AQ.c g)] (.AB [.S (C1.c (B7 c e).1),.n (B7 c e).2]):=by
 have m:D5 c=0->BD c:=λj=>HU j;refine g9 s t g p q (j:=λb=>BD c/\G8 c b) (λn r x=> ?_) (λe h f=> ?_) h (λf=> ?_)
 .subst r;have d:=λi=>jx (c:=n) i k;exact{
   PQ:=λb a=>(d a.1).PQ b a.2
   Av:=λb a=>(d a.1).Av b a.2
   round:=λb a=>(d a.1).round b a.2
   Su:=λb a=>(d a.1).Su b a.2
   Th:=λb a=>(d a.1).Th b a.2
   Dj:=λb l e a u j f=>⟨a.1,(d a.1).Dj b l e a.2 u j f⟩}
 .let⟨y,a⟩:=PL m h f
  grind
 .let⟨i,a⟩:=WZ m h f
  refine⟨a.X.W.sh,i,a.X.W.Fj,a.Ld,λz v=> ?_⟩;obtain⟨o,_,rfl⟩:=Aeu.1 v;exact a.X.W.Bs 0 o
