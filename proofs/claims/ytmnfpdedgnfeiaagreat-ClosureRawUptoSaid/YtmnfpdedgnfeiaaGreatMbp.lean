/- Part of the proof. -/
import Derived.Test.YtmnfpdedgnfeiaaGreatMbl
set_option linter.all false
noncomputable section
open Option renaming some->A,bind->Option.b
open _root_ renaming rfl->B,List->C,Nat->D,Int->K,if_neg->Ad,if_pos->Af,Bool->Ak,absurd->A_,decide_eq_false->Ba
open Bool renaming true->L,false->Ac
open Decidable renaming decide->Au
open List renaming replicate->Bv,length->List.l,map->List.m,take->List.t,drop->List.d,flatMap->List.f
open Nat renaming le_refl->C6
open Go.IntKind renaming i64->Go.IntKind.n
open Array renaming toList->Array.l
open Eq renaming trans->Eq.t,symm->Eq.s
open Or renaming inl->Or.i,inr->Or.j
open Int renaming toNat->Int.n
namespace Go.Proofs.YtmnfpdedgnfeiaaGreat
open Go.Fg
def E0(t:Bz->F)(e:Ah)(a:D):C F:=[.n (e.at a).A4,.n (e.at a).AN,.n (e.at a).Ao,.n (e.at a).As,t (.Ap a),t (.AB a),t (.AI a)]
def Hk(a:AP):C F:=[.b (!Au (a.next= -1))]
def MM(h:G)(t:Bz->F)(e:Ah)(r:C (C (C K))):Bz->Prop
 | .T=>AF h (t .T) (E0 t e) 7 (List.range e.T.l)
 | .Ap a=>a<e.T.l->AF h (t (.Ap a)) M.c 2 (e.at a).Ap
 | .AB a=>a<e.T.l->AF h (t (.AB a)) (EX λb=>t (.Aw a b)) 1 (List.range (e.at a).AB.l)
 | .Aw a b=>∀c,(e.at a).AB[b]? =A c->AF h (t (.Aw a b)) M.c 2 c
 | .AI a=>a<e.T.l->AF h (t (.AI a)) Bq 1 (e.at a).AI
 | .Bu=>AF h (t .Bu) (EX λa=>t (.A5 a)) 1 (List.range r.l)
 | .A5 a=>∀d,r[a]? =A d->AF h (t (.A5 a)) (EX λb=>t (.BS a b)) 1 (List.range d.l)
 | .BS a b=>∀d c,r[a]? =A d->d[b]? =A c->AF h (t (.BS a b)) Bq 1 c
 | .Ae=>AF h (t .Ae) Hk 1 e.T
 |_=>True
theorem MM.Av{h u:G}{t:Bz->F}{e:Ah}{r:C (C (C K))}{i:Bz}(c:MM h t e r i)(b:∀f,Lv h f->¬AE (t i) f->u.N f=h.N f/\Lv u f):MM u t e r i:=by
 cases i with
 |T=>exact AF.Av c b
 |Ap d=>exactλa=>AF.Av (c a) b
 |AB d=>exactλa=>AF.Av (c a) b
 |Aw d o=>exactλg a=>AF.Av (c g a) b
 |AI d=>exactλa=>AF.Av (c a) b
 |Bu=>exact AF.Av c b
 |A5 d=>exactλg a=>AF.Av (c g a) b
 |BS d o=>exactλg a j k=>AF.Av (c g a j k) b
 |Ae=>exact AF.Av c b
 |E2=>trivial
 |DK=>trivial
 |Bw d=>trivial
structure Cs(s:Aa->Bz)(h:G)(l:C Ab)(x:Aa)(e:Ah)(r:C (C (C K)))(q:K)(t:Bz->F):Prop where
 N:h.N x=A (.I 8 [Z Ab.c l,t .T,Z AG.c e.Ae,.n e.round,.n e.Aq,t .Bu,t .Ae,.n q])
 lv:Lv h x
 Ci:s x=.E2
 tg:∀a,a≠.DK->∀b,¬AE (t a) b->Lv h b/\s b=a
 D8:∀a,MM h t e r a
section
variable{s:Aa->Bz} {h:G} {l:C Ab} {x:Aa} {e:Ah} {r:C (C (C K))} {q:K} {t:Bz->F}
theorem Cs.Av{u:G}(a:Cs s h l x e r q t)(f:∀b,Lv h b->s b≠.DK->u.N b=h.N b/\Lv u b):Cs s u l x e r q t where
 N:=(f x a.lv (by rw[a.Ci];grind)).1.t a.N
 lv:=(f x a.lv (by rw[a.Ci];grind)).2
 Ci:=a.Ci
 tg:=λc g b d=>⟨(f b (a.tg c g b d).1 (by rw[(a.tg c g b d).2];grind)).2,(a.tg c g b d).2⟩
 D8:=λc=>by
  by_cases i:c=.DK;.subst i;trivial
  .exact(a.D8 c).Av λj k d=>f j k (by rw[(a.tg c i j d).2];grind)
theorem Cs.ext{u:G}(a:Cs s h l x e r q t)(b:AR h u):Cs s u l x e r q t:=a.Av P
theorem Cs.EY{u:G}{c:Ah}{j:C (C (C K))}{f:Bz}(b:Cs s h l x e r q t)(i:Fb s h u f)(z:∀d,Lv h d->Lv u d)(k:f≠.E2)(E:c.Ae=e.Ae)(H:c.round=e.round)(y:c.Aq=e.Aq)(J:MM u t c j f)(I:∀a,a≠f->MM u t e r a->MM u t c j a):Cs s u l x c j q t where
 N:=by rw[E,H,y];exact(i x b.lv (by rw[b.Ci];grind)).1.t b.N
 lv:=(i x b.lv (by rw[b.Ci];grind)).2
 Ci:=b.Ci
 tg:=λa k o g=>⟨z o (b.tg a k o g).1,(b.tg a k o g).2⟩
 D8:=λa=>by
  by_cases w:a=f;.grind
  .by_cases v:a=.DK;.subst v;trivial
   .exact I _ w ((b.D8 a).Av λd F g=>i d F (by rw[(b.tg a v d g).2];grind))
theorem Cs.Z_{u:G}{j f o:K}{g:C AG}(b:Cs s h l x e r q t)(E:u.N x=A (.I 8 [Z Ab.c l,t .T,Z AG.c g,.n j,.n f,t .Bu,t .Ae,.n o]))(y:Fb s h u .E2)(v:∀c,Lv h c->Lv u c):Cs s u l x ⟨e.T,g,j,f⟩ r o t where
 N:=E
 lv:=v x b.lv
 Ci:=b.Ci
 tg:=λa w i d=>⟨v i (b.tg a w i d).1,(b.tg a w i d).2⟩
 D8:=λa=>by
  have H:MM h t ⟨e.T,g,j,f⟩ r a:=by have:=b.D8 a;cases a<;>exact this
  by_cases z:a=.E2;.subst z;trivial
  .by_cases k:a=.DK;.subst k;trivial
   .exact H.Av λc F d=>y c F (by rw[(b.tg a k c d).2];grind)
theorem Cs.X2(c:Cs s h l x e r q t)(b:D)(a:F)(G:b<8)(z:a.I=[a])(E:FX a=L){i f d:K}{g:C AG}(w:DJ b [a] [Z Ab.c l,t .T,Z AG.c e.Ae,.n e.round,.n e.Aq,t .Bu,t .Ae,.n q]=[Z Ab.c l,t .T,Z AG.c g,.n i,.n f,t .Bu,t .Ae,.n d]):∃u,A1 1 h [.p x b,a]=A (Ax,u)/\Cs s u l x ⟨e.T,g,i,f⟩ r d t/\Fb s h u .E2:=by have k:=G9 (d:=b) (a:=a) c.N (by omega) (by omega) z E;rw[w]at k;have j:Fb s h (h.set x (.I 8 [Z Ab.c l,t .T,Z AG.c g,.n i,.n f,t .Bu,t .Ae,.n d])) .E2:=SJ c.Ci (λH y=>by rw[AY,Ad y]) P;exact⟨_,k,c.Z_ (by rw[AY,Af B]) j P,j⟩
theorem Cs.MH(b:Cs s h l x e r q t)(a:K):∃u,A1 1 h [.p x 4,.n a]=A (Ax,u)/\Cs s u l x ⟨e.T,e.Ae,e.round,a⟩ r q t/\Fb s h u .E2:=b.X2 4 _ (by omega) B B B
theorem Cs.ac(b:Cs s h l x e r q t)(a:K):∃u,A1 1 h [.p x 3,.n a]=A (Ax,u)/\Cs s u l x ⟨e.T,e.Ae,a,e.Aq⟩ r q t/\Fb s h u .E2:=b.X2 3 _ (by omega) B B B
theorem Cs.S1(b:Cs s h l x e r q t)(a:K):∃u,A1 1 h [.p x 7,.n a]=A (Ax,u)/\Cs s u l x e r a t/\Fb s h u .E2:=b.X2 7 _ (by omega) B B B
theorem Cs.Cp(i:Cs s h l x e r q t){a:D}(g:a<e.T.l):∃b,AZ 7 [t .T,.n a]=A (.p b (a*7))/\∀c,c<7->h.AA b (a*7+c)=(E0 t e a)[c]? :=by
 let⟨b,d⟩:=Dm (f:=E0 t e) (w:=7) (λ_=>B) (i.D8 .T) (Ga g)
 exact⟨b,d.ia,λc j=>d.AA (f:=E0 t e) (w:=7) (λ_=>B) (Ga g) j⟩
theorem WM{a:Aa}{c:Ce}{b:Bz}(f:s a=b):Fb s h (h.set a c) b:=SJ f (λg d=>by rw[AY,Ad d]) P
theorem af{h:G}{a:D}{b:AP}(g:a<e.T.l)(v:D4 (e.at a) b){i:Bz}(c:MM h t e r i)(R:i=.Ap a->b.Ap=(e.at a).Ap)(J:∀k,i=.Aw a k->b.AB[k]? =(e.at a).AB[k]?)(P:i=.AI a->b.AI=(e.at a).AI)(Q:i=.Ae->b.next=(e.at a).next):MM h t (e.AM a b) r i:=by
 have w:(e.AM a b).T.l=e.T.l:=D0 ..
 cases i with
 |T=>
  show AF h (t .T) (E0 t (e.AM a b)) 7 (List.range (e.AM a b).T.l);rw[(funext λc=>by
   unfold E0;rw[Ee g];split;.rename_i d;subst d;rw[v.A4,v.AN,v.Ao,v.As]
   grind:E0 t (e.AM a b)=E0 t e),w];exact c
 |Ap j=>intro f;rw[w]at f;have:=c f;rw[Ee g];grind
 |AB j=>
  intro f;rw[w]at f;have:=c f;rw[Ee g];split;.rename_i d;subst d;have:=Aij List.length v.AB;grind
  omega
 |Aw j k=>
  intro z o;rw[Ee g]at o;split at o;.rename_i d;subst d;rw[J k B]at o;exact c z o
  .exact c z o
 |AI j=>intro f;rw[w]at f;have:=c f;rw[Ee g];grind
 |Bu=>exact c
 |A5 j=>exact c
 |BS j k=>exact c
 |Ae=>
  have M:(e.AM a b).T.f Hk=e.T.f Hk:=by
   have:(e.AM a b).T.m Hk=e.T.m Hk:=by
    refine Ajc λy=> ?_;rw[AiL,AiL];show((e.T.set a b)[y]?).map Hk=_;by_cases d:y=a;.subst d;rw[AiF g,Cu g];show A (Hk b)=A (Hk (e.at y));unfold Hk;grind
    grind
   grind
  show AF h _ _ 1 _;rcases(c:AF h _ _ 1 _)with⟨F,H⟩|⟨E,d,F,H,N,I⟩;.grind
  .exact .j ⟨E,d,by grind,by grind,by grind,I⟩
 |E2=>trivial
 |DK=>trivial
 |Bw j=>trivial
theorem Cs.ab(k:Cs s h l x e r q t){a b:D}{E:M}(v:a<e.T.l)(j:(e.at a).Ap[b]? =A E)(g:M):∃d u,AZ 2 [t (.Ap a),.n b]=A (.p d (b*2))/\h.AA d (b*2)=A (.i .u8 E.Ai)/\h.AU d (b*2) 2=A (M.c E)/\A1 2 h [.p d (b*2),.S (M.c g)]=A (Ax,u)/\Cs s u l x (e.AM a {e.at a with Ap:=(e.at a).Ap.set b g}) r q t/\Fb s h u (.Ap a):=by
 have G:=k.D8 (.Ap a) v;let⟨d,i⟩:=Dm (f:=M.c) (w:=2) (λ_=>B) G j
 let⟨H,Q⟩:=i.set (f:=M.c) (w:=2) (λ_=>B) G j (c:=g) (g:=.S (M.c g)) B B
 have F:=WM (h:=h) (c:=.I ((e.at a).Ap.l*2) (((e.at a).Ap.set b g).f M.c)) (k.tg (.Ap a) (by grind) d i.nb).2;refine⟨d,_,i.ia,by exact(i.AA (f:=M.c) (w:=2) (λ_=>B) j (b:=0) (by omega)),i.AU (f:=M.c) (w:=2) (λ_=>B) j,H,k.EY F P (by grind) B B B ?_ λR J I=>af (b:={e.at a with Ap:=(e.at a).Ap.set b g}) v ⟨B,B,B,B,Aiv,B,B,B⟩ I P P (λ_=>B) (λ_=>B),F⟩;intro _;rw[Hc v];grind
theorem Cs.eu(j:Cs s h l x e r q t){a b:D}{G:K}(k:a<e.T.l)(v:(e.at a).AI[b]? =A G)(g:K):∃d u,AZ 1 [t (.AI a),.n b]=A (.p d (b*1))/\h.AA d (b*1)=A (.n G)/\A1 1 h [.p d (b*1),.n g]=A (Ax,u)/\Cs s u l x (e.AM a {e.at a with AI:=(e.at a).AI.set b g}) r q t/\Fb s h u (.AI a):=by
 have F:=j.D8 (.AI a) k;let⟨d,i⟩:=Dm (f:=Bq) (w:=1) (λ_=>B) F v
 let⟨H,Q⟩:=i.set (f:=Bq) (w:=1) (λ_=>B) F v (c:=g) (g:=.n g) B B
 have E:=WM (h:=h) (c:=.I ((e.at a).AI.l*1) (((e.at a).AI.set b g).f Bq)) (j.tg (.AI a) (by grind) d i.nb).2;refine⟨d,_,i.ia,by exact(i.AA (f:=Bq) (w:=1) (λ_=>B) v (b:=0) (by omega)),H,j.EY E P (by grind) B B B ?_ λR J I=>af (b:={e.at a with AI:=(e.at a).AI.set b g}) k ⟨B,B,B,B,B,B,Aiv,B⟩ I P P (λM=>A_ M J) (λ_=>B),E⟩;intro _;rw[Hc k];grind
theorem Cs.E_(i:Cs s h l x e r q t){b a:D}{v:C M}(j:b<e.T.l)(k:(e.at b).AB[a]? =A v):∃c,AZ 1 [t (.AB b),.n a]=A (.p c (a*1))/\h.AA c (a*1)=A (t (.Aw b a)):=by
 have g:=(Aid.1 k).1;let⟨c,d⟩:=Dm (f:=EX λa=>t (.Aw b a)) (w:=1) (λ_=>B) (i.D8 (.AB b) j) (Ga g)
 exact⟨c,d.ia,by exact(d.AA (f:=EX λa=>t (.Aw b a)) (λ_=>B) (Ga g) (b:=0) (by grind))⟩
theorem Cs.Q9(E:Cs s h l x e r q t){b d a:D}{j:C M}{F:M}(H:b<e.T.l)(I:(e.at b).AB[d]? =A j)(v:j[a]? =A F)(g:M):∃i u,AZ 2 [t (.Aw b d),.n a]=A (.p i (a*2))/\h.AA i (a*2)=A (.i .u8 F.Ai)/\h.AU i (a*2) 2=A (M.c F)/\A1 2 h [.p i (a*2),.S (M.c g)]=A (Ax,u)/\Cs s u l x (e.Aw b d a g) r q t/\Fb s h u (.Aw b d):=by
 have P:=E.D8 (.Aw b d) j I;let⟨i,k⟩:=Dm (f:=M.c) (w:=2) (λ_=>B) P v
 let⟨Q,Y⟩:=k.set (f:=M.c) (w:=2) (λ_=>B) P v (c:=g) (g:=.S (M.c g)) B B
 have G:=WM (h:=h) (c:=.I (j.l*2) ((j.set a g).f M.c)) (E.tg (.Aw b d) (by grind) i k.nb).2;have S:((e.at b).Aw d a g).AB=(e.at b).AB.set d (j.set a g):=UZ I a g;have R:d<(e.at b).AB.l:=by grind
 refine⟨i,_,k.ia,by have:=k.AA (f:=M.c) (w:=2) (λ_=>B) v (b:=0) (by omega);exact this,k.AU (f:=M.c) (w:=2) (λ_=>B) v,Q,E.EY G (λU V=>by grind) (by grind) B B B ?_ λxa X T=>af (b:=(e.at b).Aw d a g) H ⟨B,B,B,B,B,S0 _ _ _ _,B,B⟩ T (λ_=>B) (λW U=> ?_) (λ_=>B) (λ_=>B),G⟩;.intro Z J;unfold Ah.Aw at J;rw[Hc H,S,AiF R]at J;grind
 .grind
theorem Cs.mc(F:Cs s h l x e r q t){a b j:D}{k:C (C K)}{E:C K}{xa:K}(i:r[a]? =A k)(Q:k[b]? =A E)(R:E[j]? =A xa)(H:K):
  ∃I J v u,AZ 1 [t .Bu,.n a]=A (.p I (a*1))/\h.AA I (a*1)=A (t (.A5 a))/\AZ 1 [t (.A5 a),.n b]=A (.p J (b*1))/\h.AA J (b*1)=A (t (.BS a b))/\
   AZ 1 [t (.BS a b),.n j]=A (.p v (j*1))/\h.AA v (j*1)=A (.n xa)/\A1 1 h [.p v (j*1),.n H]=A (Ax,u)/\Cs s u l x e (r.set a (k.set b (E.set j H))) q t/\Fb s h u (.BS a b):=by
 have Z:=F.D8 (.BS a b) k E i Q
 have X:=(Aid.1 i).1
 have Y:=(Aid.1 Q).1
 let⟨I,V⟩:=Dm (f:=EX λa=>t (.A5 a)) (w:=1) (λ_=>B) (F.D8 .Bu) (Ga X)
 let⟨J,W⟩:=Dm (f:=EX λb=>t (.BS a b)) (w:=1) (λ_=>B) (F.D8 (.A5 a) k i) (Ga Y)
 let⟨v,c⟩:=Dm (f:=Bq) (w:=1) (λ_=>B) Z R
 let⟨xc,xf⟩:=c.set (f:=Bq) (w:=1) (λ_=>B) Z R (c:=H) (g:=.n H) B B
 have U:=WM (h:=h) (c:=.I (E.l*1) ((E.set j H).f Bq)) (F.tg (.BS a b) (by grind) v c.nb).2
 refine⟨I,J,v,_,V.ia,by exact(V.AA (f:=EX λa=>t (.A5 a)) (λ_=>B) (Ga X) (b:=0) (by grind)),W.ia,by exact(W.AA (f:=EX λb=>t (.BS a b)) (λ_=>B) (Ga Y) (b:=0) (by grind)),c.ia,by exact(c.AA (f:=Bq) (w:=1) (λ_=>B) R (b:=0) (by omega)),xc,F.EY U P (by grind) B B B ?_ λxd xe d=> ?_,U⟩
 .intro M S g G;grind
 .cases xd with
  |Bu=>show AF _ _ _ 1 (List.range (r.set a _).l);rw[Aiv];exact d
  |A5 c=>
   intro M g;rcases IM i g with⟨rfl,rfl⟩|⟨_,g⟩;.rw[Aiv];exact d k i
   .exact d M g
  |BS c xb=>
   intro M S g G;rcases IM i g with⟨rfl,rfl⟩|⟨_,g⟩
   .rcases IM Q G with⟨rfl,rfl⟩|⟨_,G⟩;.grind
    .exact d k S i G
   .exact d M S g G
  |T=>exact d
  |Ap c=>exact d
  |AB c=>exact d
  |Aw c xb=>exact d
  |AI c=>exact d
  |Ae=>exact d
  |E2=>trivial
  |DK=>trivial
  |Bw c=>trivial
theorem Cs.UW{i:Aa->Bz}{u:G}(b:Cs s h l x e r q t)(c:∀a,Lv h a->u.N a=h.N a/\Lv u a/\i a=s a):Cs i u l x e r q t where
 N:=(c x b.lv).1.t b.N
 lv:=(c x b.lv).2.1
 Ci:=(c x b.lv).2.2.t b.Ci
 tg:=λd f a g=>⟨(c a (b.tg d f a g).1).2.1,(c a (b.tg d f a g).1).2.2.t (b.tg d f a g).2⟩
 D8:=λd=>(b.D8 d).Av P
end
structure Fu where
 l:C Ab
 x:Aa
def Bx(n:Fu)(h:G)(e:Ah)(r:C (C (C K)))(q:K)(p:Aa->Prop):Prop:=∃s t,Cs s h n.l n.x e r q t/\∀a,p a->Lv h a/\s a=.DK
section
variable{n:Fu} {h u:G} {e:Ah} {r:C (C (C K))} {q:K} {p m:Aa->Prop}
theorem Bx.ext(b:Bx n h e r q p)(a:AR h u):Bx n u e r q p:=by
 let⟨s,t,c,d⟩:=b
 exact⟨s,t,c.ext a,P⟩
open Classical in
theorem Bx.V (f:Bx n h e r q p) (c:AR h u):Bx n u e r q (Fo p h u):=by
 let⟨s,t,g,i⟩:=f
 refine⟨λa=>if Lv h a then s a else .DK,t,g.UW λa d=>⟨c.N d,c.lv d,Af d⟩,λa b=> ?_⟩;rcases b with b|b;.exact⟨c.lv (i a b).1,by grind⟩
 .grind
theorem Bx.sub(b:Bx n h e r q p)(f:∀a,m a->p a):Bx n h e r q m:=by
 let⟨s,t,c,d⟩:=b
 exact⟨s,t,c,P⟩
theorem Bx.Dy(b:Bx n h e r q p){a:Aa}(f:p a):Lv h a:=by
 let⟨s,t,c,d⟩:=b
 grind
end
section
variable{z:Aa->Bz} {h:G} {l:C Ab} {x:Aa} {e:Ah} {v:C (C (C K))} {u:K} {t:Bz->F}
theorem Cs.Cy(d:Cs z h l x e v u t){a:D}(g:a<e.T.l):∃b,AZ 7 [t .T,.n a]=A (.p b (a*7))/\AW h [.p b (a*7+0)]=A (.n (e.at a).A4)/\AW h [.p b (a*7+1)]=A (.n (e.at a).AN)/\AW h [.p b (a*7+2)]=A (.n (e.at a).Ao)/\AW h [.p b (a*7+3)]=A (.n (e.at a).As)/\AW h [.p b (a*7+4)]=A (t (.Ap a))/\AW h [.p b (a*7+5)]=A (t (.AB a))/\AW h [.p b (a*7+6)]=A (t (.AI a)):=by
 let⟨b,f,c⟩:=d.Cp g
 exact⟨b,f,c 0 (by omega),c 1 (by omega),c 2 (by omega),c 3 (by omega),c 4 (by omega),c 5 (by omega),c 6 (by omega)⟩
theorem Fp(x:Aa):Bt 0 [.p x 1]=A (.p x 1):=by rw[F6]
theorem VT(x:Aa):Bt 1 [.p x 1]=A (.p x 2):=by rw[F6]
theorem b_(x:Aa):Bt 2 [.p x 1]=A (.p x 3):=by rw[F6]
theorem R2(x:Aa):Bt 3 [.p x 1]=A (.p x 4):=by rw[F6]
theorem H4(a:Aa)(b c:D):Bt c [.p a (b*7)]=A (.p a (b*7+c)):=by rw[F6]
theorem Cs.cv(a:Cs z h l x e v u t):h.AA x 1=A (t .T):=AJ a.N 1
theorem YL(J:Cs z h l x e v u t){c:D}(k:c<e.T.l)(a:AH){m:M}(b:GX (e.at c) a=A m):∃G,W9 (Ar 176) [.p x 0,.n c,.S (AH.c a)] h=A (.S (M.c m),G)/\AR h G:=by
 let⟨xr,R,xl,xj,o,P,U,xq⟩:=box h (.I 2 (AH.c a))
 let⟨xs,xi,xm,xk,p,Q,xp,W⟩:=box R (.I 2 [.i .u8 0,.n 0])
 have n:=o.AQ p;have X:=λT=>W (o.lv T);have d:=J.ext n;have F:=(p.N U).t P;have Z:=F;have xa:=F;have xu:=d.cv;let⟨s,xo,xb,xc,xd,xe,xf,xg,xh⟩:=d.Cy k
 let⟨S,xw,xt,E⟩:=Ha Q m
 refine⟨S,Bd B B ?_,by rw[E];exact n.G7 X _⟩;clear E;rw[jH.1];unfold GX at b;by_cases y:a.Ao<0
 .rw[Af y]at b;by_cases j:0<=a.Aw
  .rw[Af j]at b;let⟨i,q⟩:=Dm (f:=M.c) (w:=2) (λ_=>B) (d.D8 (.Ap c) k) b
   have I:AZ 2 [t (.Ap c),.n a.Aw]=A (.p i (a.Aw.n*2)):=by have:=q.ia;rwa[show a.Aw.n=a.Aw by omega]at this
   have Y:=q.AU (f:=M.c) (λ_=>B) b;simp only[QY,H (Fp x),H (H4 s c 4), *]
  .grind
 .rw[Ad y]at b;by_cases j:0<=a.Aw
  .rw[Af j]at b
   cases g:(e.at c).AB[a.Ao.n]?with
   |none=>rw[g]at b;cases b
   |some V=>
    rw[g]at b;let⟨i,I,xv⟩:=d.E_ k g
    have I:AZ 1 [t (.AB c),.n a.Ao]=A (.p i (a.Ao.n*1)):=by grind
    let⟨N,r⟩:=Dm (f:=M.c) (w:=2) (λ_=>B) (d.D8 (.Aw c a.Ao.n) V g) b
    have xn:AZ 2 [t (.Aw c a.Ao.n),.n a.Aw]=A (.p N (a.Aw.n*2)):=by have:=r.ia;rwa[show a.Aw.n=a.Aw by omega]at this
    have Y:=r.AU (f:=M.c) (λ_=>B) b;simp only[QY,jH.2,H (Fp x),H (H4 s c 5), *]
  .grind
structure fa(l:C Ab)(e:Ah)(c d:D)(b:Ab)(f:AD):Prop where
 FM:∃a:D,(e.at c).A4=(a:K)/\l[a]? =A b
 hn:b.Ay[d]? =A f
theorem YM(r:Cs z h l x e v u t){g Y:D}(W:g<e.T.l){J:Ab}{a:AD}(xd:fa l e g Y J a){G:C M}(R:KW (e.at g) a.AT=A G)(xB:a.AT.l<1000000):∃b k,W9 (Ar 136) [.p x 0,.n g,.n Y] h=A (b,k)/\AF k b M.c 2 G/\AR h k/\EV h b:=by
 let⟨xm,xk⟩:=eU R
 let⟨⟨xy,xj,xl⟩,xn⟩:=xd
 let⟨b,k,N,E,o,m⟩:=Ez (h:=a.AT.l) (f:=λj b h=>jj W9 136 2 [.p x 0,.n g,Z AH.c a.AT,.n j,b] h) (g:=λj b q=>AF q b M.c 2 (G.t j)/\AR h q/\EV h b)
  (λj b q X xc=>by
   let⟨E,o,m⟩:=xc
   let⟨P,V⟩:=Bo X
   let⟨xb,R,xo⟩:=xk V
   have xf:=Dx X;have xw:Bf 2 q [.pi (AH.c P)]=A (.S (AH.c P)):=B;let⟨xA,xq,S⟩:=YL (r.ext o) W P R
   have xC:(G.t j).l<=j:=by grind
   let⟨xx,xi,xr,xa,U,xe⟩:=GS (f:=M.c) (w:=2) (b:=xb) (o:=.S (M.c xb)) (h:=16) (λ_=>B) B B (E.ext S) (EI (by omega))
   rw[Gv xo]at xa;have p:=o.AQ S;refine⟨xx,xi,?_,xa,λd c=>⟨(U.N (p.lv c) (m d c)).t (p.N c),U.lv (p.lv c) (m d c)⟩,λd c=>xe d (p.lv c) (m d c)⟩;rw[Ub.2.2.1];simp only[QY,Ek AH.c a.AT,xf,Ub.2.2.2.1,Kd V,xw,xq,xr,Ub.2.2.2.2,BF (a:=j) (by omega)])
  (b:=.sn) (a:=h) ⟨AF.sn h,λd c=>⟨B,c⟩,λd _=>CM d⟩
 have N:jj W9 136 2 [.p x 0,.n g,Z AH.c a.AT,.n 0,.sn] h=jj W9 136 2 [.p x 0,.n g,Z AH.c a.AT,.n a.AT.l,b] k:=N;have xg:=Dz a.AT.l;rw[xm,HV]at E;refine⟨b,k,Bd B B ?_,E,o,m⟩;have xv:=r.cv;have xu:=r.N;let⟨xz,xp,T,_⟩:=r.Cy W
 rw[xj]at T;have xs:AW h [.pi ((Ab.c J).d 2)]=A (Z AD.c J.Ay):=B;have xh:Bt 3 [.pi (AD.c a)]=A (.pi ((AD.c a).d 3)):=B;have xt:AW h [.pi ((AD.c a).d 3)]=A (Z AH.c a.AT):=B;rw[Ub.1];simp only[QY,xv,xu,xp,T,Da xl,f2,xs,Gq xn,xh,xt];rw[N,Ub.2.2.1];simp only[↓Q,↓QT,Aic,↓H (Ek AH.c a.AT),xg,Ub.2.1]
end
def Jy(l:C M):D:=l.countP λa=> !Au (a.Ai=0)
theorem qK(l:C M)(a:M):Jy (l++[a])=Jy l+(if a.Ai=0 then 0 else 1):=by unfold Jy;grind
theorem qJ(l:C _):Jy l<=l.l:=List.countP_le_length
theorem qM{b:AP}{d:C AH}:(0<Jy (d.m (A9 b)))↔d.any (Gd b)=L:=by
 unfold Jy;rw[List.countP_pos_iff,Ajv];constructor
 .rintro⟨g,f,h⟩
  obtain⟨c,a,rfl⟩:=AiR.1 f;exact⟨c,a,h⟩
 .rintro⟨c,a,h⟩
  exact⟨_,List.mem_map_of_mem a,h⟩
theorem qL{b:AP}{a:C AH}:(Jy (a.m (A9 b))=a.l)↔a.all (Gd b)=L:=by
 unfold Jy;have:=List.countP_eq_length (p:=λf:M=> !Au (f.Ai=0)) (l:=a.m (A9 b));rw[Aiw]at this;rw[this,AiP];constructor;.intro h d c;exact h _ (List.mem_map_of_mem c)
 .intro h f g;obtain⟨d,c,rfl⟩:=AiR.1 g;exact h d c
theorem Adx{b:AP}{c:AD}{a:K}(h:a>0):FB b c a=Ac:=by unfold FB;grind
theorem Adv{c:AP}{a:AD}{b:K}(h:¬b>0)(f:a.op=8\/a.op=9){d:M}(i:(a.AT.m (A9 c))[0]? =A d):FB c a b= !Au (d.Ai=0):=by
 unfold FB
 rw[Ad h,Af f]
 cases g:a.AT with
 |nil=>grind
 |cons b j=>
  rw[g]at i;have:A9 c b=d:=by grind
  rw[<-this];rfl
theorem Adu{b:AP}{a:AD}{c:K}(h:¬c>0)(d:a.op=6):FB b a c=a.AT.any (Gd b):=by unfold FB;grind
theorem Adw{b:AP}{a:AD}{c:K}(h:¬c>0)(f:¬(a.op=8\/a.op=9))(d:a.op≠6):FB b a c=a.AT.all (Gd b):=by unfold FB;grind
section
variable{y:Aa->Bz} {h:G} {l:C Ab} {x:Aa} {e:Ah} {v:C (C (C K))} {u:K} {t:Bz->F}
theorem Cs.so(j:Cs y h l x e v u t){b c:D}{i:K}(k:b<e.T.l)(g:(e.at b).AI[c]? =A i):∃a,AZ 1 [t (.AI b),.n c]=A (.p a (c*1))/\AW h [.p a (c*1)]=A (.n i):=by
 let⟨a,d⟩:=Dm (f:=Bq) (w:=1) (λ_=>B) (j.D8 (.AI b) k) g
 exact⟨a,d.ia,by exact(d.AA (f:=Bq) (w:=1) (λ_=>B) g (b:=0) (by omega))⟩
theorem Aaz{d:C M}(Y:d.l<1000000){k:F}{g:G}(R:AF g k M.c 2 d)(m q z:F):jj W9 137 4 [.n 0,m,q,z,.n 0,k] g=jj W9 137 4 [.n (d.l:K),m,q,z,.n (Jy d:K),k] g:=by
 have xa:=C4 R;obtain⟨j,T,V,rfl,rfl⟩:=Ez (h:=d.l) (f:=λc (j:D) h=>jj W9 137 4 [.n (c:K),m,q,z,.n (j:K),k] h) (g:=λc j h=>h=g/\j=Jy (d.t c))
  (λc j h Q S=>by
   obtain⟨rfl,rfl⟩:=S;let⟨N,J⟩:=Bo Q
   have U:=Dx Q;let⟨r,p⟩:=Dm (f:=M.c) (w:=2) (λ_=>B) R J
   have xb:AW h [.p r (c*2+0)]=A (.i .u8 N.Ai):=by exact(p.AA (f:=M.c) (w:=2) (λ_=>B) J (b:=0) (by omega))
   have X:Bt 0 [.p r (c*2)]=A (.p r (c*2+0)):=by rw[F6]
   have Z:Jy (d.t c)<=c:=AiN (qJ _) (by grind);have E:=qK (d.t c) N;rw[Gv J]at E;have W:=GJ (a:=(Jy (d.t c):K)) (b:=1) (by omega) (by omega);by_cases P:N.Ai=0;.rw[Af P]at E;refine⟨Jy (d.t c),h,?_,B,by grind⟩;rw[LR.2.2.2.1];simp only[QY,LR.2.2.2.2.1,H p.ia,LR.2.2.2.2.2.1,H (BF (a:=c) (by omega)), *]
   .rw[Ad P]at E;refine⟨Jy (d.t c)+1,h,?_,B,by grind⟩;rw[LR.2.2.2.1];simp only[QY,LR.2.2.2.2.1,H p.ia,LR.2.2.2.2.2.1,H (BF (a:=c) (by omega)),Akt,Int.cast_ofNat_Int, *])
  (b:=0) (a:=g) ⟨B,B⟩
 grind
theorem uz(k:Cs y h l x e v u t){b E:D}(r:b<e.T.l){I:Ab}{a:AD}(W:fa l e b E I a){P:K}(xf:(e.at b).AI[E]? =A P)(xi:KW (e.at b) a.AT=A (a.AT.m (A9 (e.at b))))(xg:1<=a.AT.l/\a.AT.l<1000000):∃V,W9 (Ar 137) [.p x 0,.n b,.n E] h=A (.b (FB (e.at b) a P),V)/\AR h V:=by
 have xG:=k.cv;let⟨xc,xA,xp,xq,xr,xs,xt,xu,j⟩:=k.Cy r
 let⟨xn,xB,xH⟩:=k.so r xf
 by_cases p:P>0;.rw[Adx p];refine⟨h,Bd B B ?_,λxE xh=>⟨B,xh⟩⟩;rw[LR.1];simp only[QY,H (Fp x),H (H4 xc b 6), *]
 .let⟨S,g,xC,R,U,xx⟩:=YM k r W xi xg.2
  have d:=k.ext U;let⟨xm,z,m,_⟩:=d.Cy r
  let⟨⟨xj,xe,q⟩,s⟩:=W
  rw[xe]at m;have G:AW g [.pi ((Ab.c I).d 2)]=A (Z AD.c I.Ay):=B;have xw:Bt 0 [.pi (AD.c a)]=A (.pi ((AD.c a).d 0)):=B;have F:AW g [.pi ((AD.c a).d 0)]=A (.i .u8 a.op):=B;have xD:(a.AT.m (A9 (e.at b))).l=a.AT.l:=by grind
  have xb:=C4 R;have xl:=qM (b:=e.at b) (d:=a.AT);have xk:=qL (b:=e.at b) (a:=a.AT);let⟨T,Q⟩:=Bo (b:=a.AT.m (A9 (e.at b))) (a:=0) (by omega)
  let⟨n,X⟩:=Dm (f:=M.c) (w:=2) (λ_=>B) R Q
  have xz:AZ 2 [S,.n 0]=A (.p n (0*2)):=X.ia;have xy:Bt 0 [.p n (0*2)]=A (.p n (0*2+0)):=by rw[F6]
  have xF:AW g [.p n (0*2+0)]=A (.i .u8 T.Ai):=by exact(X.AA (f:=M.c) (w:=2) (λ_=>B) Q (b:=0) (by omega))
  have xv:=FW .u8 T.Ai 0;refine⟨g,Bd B B ?_,U⟩;rw[LR.1];simp only[QY,LR.2.1, *];rw[(Aaz (by omega) R (.p x 0) (.n b) (.n E)),LR.2.2.2.1];simp only[QY,xb,(Dz (a.AT.m (A9 (e.at b))).l)];rw[LR.2.2.1];by_cases j:a.op=6;.rw[Adu p j];simp only[QY,d.N,d.cv,z,m,Da q,G,Gq s,F,j,(E6 .n (Jy (a.AT.m (A9 (e.at b)))) 0)];grind
  .by_cases Y:a.op=8\/a.op=9
   .rw[Adv p Y Q];have xd:jj W9 137 2 [.b L,.n (Jy (a.AT.m (A9 (e.at b)))),S] g=A (.b (!Au (T.Ai=0)),g):=by rw[LR.2.2.2.2.2.2.2];simp only[QY, *]
    by_cases J:a.op=8;.simp only[QY,Int.reduceEq,d.N,d.cv,z,m,Da q,G,Gq s,F,J];grind
    .have N:a.op=9:=by omega
     simp only[QY,Int.reduceEq,d.N,d.cv,z,m,Da q,G,Gq s,F,j,N];grind
   .rw[Adw p Y j];have J:¬a.op=8:=by omega
    have N:¬a.op=9:=by omega
    have xd:jj W9 137 2 [.b Ac,.n (Jy (a.AT.m (A9 (e.at b)))),S] g=A (.b (a.AT.all (Gd (e.at b))),g):=by
     rw[LR.2.2.2.2.2.2.2];simp only[QY,LR.2.2.2.2.2.2.1,xb,(Cz .n (Jy (a.AT.m (A9 (e.at b)))) (a.AT.m (A9 (e.at b))).l)];by_cases xo:a.AT.all (Gd (e.at b))=L;.grind
     .have:a.AT.all (Gd (e.at b))=Ac:=by grind
      rw[this,Ba (by grind)]
    have xa:=Cz .u8 a.op 9;rw[Ba N]at xa;simp only[QY,d.N,d.cv,z,m,Da q,G,Gq s,F,j,J,xa];grind
end
section
variable{z:Aa->Bz} {h:G} {l:C Ab} {x:Aa} {e:Ah} {v:C (C (C K))} {u:K} {t:Bz->F}
theorem vi(xg:Bj l)(xh:Cs z h l x e v u t){a:D}(E:a<e.T.l){V:D}{W:Ab}(k:DU l V W (e.at a)){J:C A8}(xG:J.l<1000000){c:F}{r:G}(xb:AF r c A8.c 2 J)(xm:AR h r)(o:EV h c):∃j m,jj W9 90 4 [.n 0,.n a,.p x 0,c] r=jj W9 90 3 [.n a,.p x 0,j] m/\AF m j A8.c 2 (J++JS l (e.at a) a (e.at a).AI.l)/\AR h m/\EV h j:=by
 have xc:=xg.A4 V W k.hb;have xH:=xc.Ay;have xI:=k.AI;let⟨j,m,Y,xE,xe,xB⟩:=Ez (h:=(e.at a).AI.l) (f:=λb c q=>jj W9 90 4 [.n b,.n a,.p x 0,c] q) (g:=λb c q=>AF q c A8.c 2 (J++JS l (e.at a) a b)/\AR h q/\EV h c)
  (λb c q xl xo=>by
   let⟨xb,xd,o⟩:=xo
   let⟨Z,xk⟩:=Bo xl
   let⟨S,xa⟩:=Bo (b:=W.Ay) (a:=b) (by omega)
   have xf:=xc.Ao b S xa;have xF:=xf.some xg;have xi:=Dx xl;have d:=xh.ext xd;have T:=d.cv;let⟨xq,P,xs,xt,xu,xv,xw,xx,M⟩:=d.Cy E
   have R:=C4 (d.D8 (.AI a) E);let⟨xn,Q,U⟩:=uz d E ⟨⟨V,k.ha,k.hb⟩,xa⟩ xk (k.Dj xf.AT) (by omega)
   have xA:Gb l (e.at a) b=FB (e.at a) S Z:=by unfold Gb;rw[k.ha,Aif,k.hb];simp only[];rw[xa,xk]
   have p:=xd.AQ U;have N:=eA l (e.at a) a b;rw[xA]at N;have xJ:=ah l (e.at a) a b;by_cases X:FB (e.at a) S Z=L
   .rw[Af X]at N;rw[X]at Q;have xz:BE [(.n 0),(.n 0)] [(0,1),(1,1)] [.n a,.n b]=A (.S (A8.c ⟨a,b⟩)):=B;let⟨j,xC,xD,xK,xj,xp⟩:=GS (f:=A8.c) (w:=2) (b:=⟨a,b⟩) (o:=.S (A8.c ⟨a,b⟩)) (h:=16) (λ_=>B) B B (xb.ext U) (EI (by grind))
    refine⟨j,xC,?_,?_,λH g=>⟨(xj.N (p.lv g) (o H g)).t (p.N g),xj.lv (p.lv g) (o H g)⟩,λH g=>xp H (p.lv g) (o H g)⟩;.rw[Mx.2.2.2.2.2.1];simp only[QY,T,P,M,R,xi,Mx.2.2.2.2.2.2.1,Q,xz,xD,Mx.2.2.2.2.2.2.2,BF (a:=b) (by omega)]
    .grind
   .have xr:FB (e.at a) S Z=Ac:=by grind
    rw[Ad X]at N;rw[xr]at Q;refine⟨c,xn,?_,by rw[N,Aiy];exact xb.ext U,p,o⟩;rw[Mx.2.2.2.2.2.1];simp only[QY,T,P,M,R,xi,Mx.2.2.2.2.2.2.1,Q,Mx.2.2.2.2.2.2.2,BF (a:=b) (by omega)])
  (b:=c) (a:=r) ⟨by rw[show JS l (e.at a) a 0=[]from B,Aiy];grind,xm,o⟩
 have Y:jj W9 90 4 [.n 0,.n a,.p x 0,c] r=jj W9 90 4 [.n (e.at a).AI.l,.n a,.p x 0,j] m:=Y;have xy:=Dz (e.at a).AI.l;have d:=xh.ext xe;have T:=d.cv;let⟨xq,P,xs,xt,xu,xv,xw,xx,M⟩:=d.Cy E
 have R:=C4 (d.D8 (.AI a) E);refine⟨j,m,?_,xE,xe,xB⟩;rw[Y,Mx.2.2.2.2.2.1];simp only[QY,T,P,M,R,xy]
theorem un(E:Bj l)(q:Cs z h l x e v u t)(p:Dk l e):∃b d,W9 (Ar 90) [.p x 0] h=A (b,d)/\AF d b A8.c 2 (Bp l e)/\AR h d/\EV h b:=by
 have xe:=p.AX;have xc:∀a,a<=e.T.l->(Ix l e.T a).l<=a*400:=λa=>by
  induction a with
  |zero=>intro _;exact C6 _
  |succ a Y=>
   intro k;have:=Y (by omega);have r:(Ix l e.T (a+1)).l=(Ix l e.T a).l+(match e.T[a]?with|some c=>JS l c a c.AI.l|none=>[]).l:=Aio;let⟨c,M⟩:=Bo (b:=e.T) (a:=a) (by omega)
   rw[M]at r;let⟨G,J,m⟩:=p.Bw a c M
   have:=(E.A4 G J m.hb).Ay;have:=m.AI;have:=ah l c a c.AI.l;have r:(Ix l e.T (a+1)).l=(Ix l e.T a).l+(JS l c a c.AI.l).l:=r;omega
 let⟨b,d,w,xa,f,U⟩:=Ez (h:=e.T.l) (f:=λa b g=>jj W9 90 2 [.p x 0,.n a,b] g) (g:=λa b g=>AF g b A8.c 2 (Ix l e.T a)/\AR h g/\EV h b)
  (λa b g k S=>by
   let⟨xb,f,W⟩:=S
   have T:=Dx k;have j:=q.ext f;have P:=j.cv;have o:=C4 (j.D8 .T);rw[Aip]at o;let⟨G,J,m⟩:=p.Bw a _ (Cu k)
   have:=xc a (by omega);let⟨Q,y,Z,xf,R,V⟩:=vi E q k m (by omega) xb f W
   refine⟨Q,y,?_,?_,R,V⟩;.rw[Mx.2.2.1];simp only[QY,P,o,T,Mx.2.2.2.1];rw[Z,Mx.2.2.2.2.1];simp only[↓H (BF (a:=a) (by omega))]
   .show AF y Q A8.c 2 (Ix l e.T a++_);rw[Cu k];grind)
  (b:=.sn) (a:=h) ⟨AF.sn h,λN X=>⟨B,X⟩,λN _=>CM N⟩
 have w:jj W9 90 2 [.p x 0,.n 0,.sn] h=jj W9 90 2 [.p x 0,.n e.T.l,b] d:=w;have xd:=Dz e.T.l;have j:=q.ext f;have P:=j.cv;have o:=C4 (j.D8 .T);rw[Aip]at o;refine⟨b,d,Bd B B ?_,xa,f,U⟩;rw[Mx.1,w,Mx.2.2.1];simp only[QY,H (Fp x),Mx.2.1, *]
end
theorem YO{a:AP}{b:D}{c:M}(h:c.Ai=0\/(BQ a b).Ai≠0):ER a b c=(a,Ac):=Af h
theorem iS{a:AP}{b:D}{c:M}(h:¬(c.Ai=0\/(BQ a b).Ai≠0)):ER a b c=({a with Ap:=a.Ap.set b c},L):=Ad h
theorem ME{e:Ah}{a:D}(b:a<e.T.l):e.AM a (e.at a)=e:=Ov (Cu b)
section
variable{t:Fu} {h:G} {e:Ah} {w:C (C (C K))} {v:K} {u:Aa->Prop}
theorem cn(g:Bx t h e w v u){a b:D}(i:a<e.T.l)(P:b<(e.at a).Ap.l)(d:M):∃m,W9 (Ar 88) [.p t.x 0,.n a,.n b,.S (M.c d)] h=A (.b (ER (e.at a) b d).2,m)/\Bx t m (e.AM a (ER (e.at a) b d).1) w v u/\BD u h m:=by
 let⟨xj,n,xd,xc,f,s,xh,xi⟩:=box h (.I 2 (M.c d))
 have q:=g.ext f;have r:=q;let⟨R,z,j,N⟩:=q
 let⟨p,x⟩:=Bo P
 have xm:=j.cv;let⟨k,xe,S,T,V,W,X,Y,Z⟩:=j.Cy i
 let⟨l,J,xf,Q,xl,xo,E,y⟩:=j.ab i x d
 have xb:BQ (e.at a) b=p:=by unfold BQ;rw[x];rfl
 have xg:=s;have xn:=s;have xa:Bt 0 [.p l (b*2)]=A (.p l (b*2+0)):=by rw[F6]
 have xk:AW n [.p l (b*2+0)]=A (.i .u8 p.Ai):=Q;by_cases F:d.Ai=0;.rw[YO (.i F),ME i];refine⟨n,Bd B B ?_,r,λo c=>f.N (g.Dy c)⟩;rw[Y_.1];simp only[QY,H (Fp t.x),H (H4 k a 4), *]
 .by_cases U:p.Ai=0
  .rw[iS (by grind)];let⟨G,I⟩:=y.FQ (by grind) N
   refine⟨J,Bd B B ?_,⟨R,z,E,G⟩,λo c=>(I o c).t (f.N (g.Dy c))⟩;rw[Y_.1];simp only[QY,H (Fp t.x),H (H4 k a 4),Y_.2, *]
  .rw[YO (.j (by grind)),ME i];refine⟨n,Bd B B ?_,r,λo c=>f.N (g.Dy c)⟩;rw[Y_.1];simp only[QY,H (Fp t.x),H (H4 k a 4), *]
end
def OL(e:Ah)(f d:D)(b:BC)(c:K):Prop:=(b=E3/\c=0)\/(b.is=L/\∃a,By e a f d/\(e.at a).As=b.As/\c=if b.next=L then-(a:K)-1 else(a:K)+1)
structure Do(e:Ah)(t:C (C (C K))):Prop where
 AX:t.l=e.T.l
 E_:∀(a:D) b,t[a]? =A b->b.m List.length=(e.at a).A5.m List.length
 Cy:∀(a c d:D) b f g,t[a]? =A b->b[c]? =A f->f[d]? =A g->OL e a c (BT (e.at a) c d) g
theorem AaO{f g:Type}{x:C (C f)}{d:C (C g)}(h:d.m List.length=x.m List.length){a:D}{b:C f}(i:x[a]? =A b):∃c,d[a]? =A c/\b.l=c.l:=by
 have:(x.m List.length)[a]? =A b.l:=by grind
 grind
theorem Do.Cp{e:Ah}{t:C (C (C K))}(j:Do e t){a d f:D}(r:a<e.T.l)(h:Fk (e.at a).A5 d f):∃c b g,t[a]? =A c/\c[d]? =A b/\b[f]? =A g/\OL e a d (BT (e.at a) d f) g:=by
 let⟨c,k⟩:=Bo (b:=t) (a:=a) (by rw[j.AX];grind)
 let⟨s,o,p⟩:=h
 let⟨b,m,q⟩:=AaO (j.E_ a c k) o
 let⟨g,n⟩:=Bo (b:=b) (a:=f) (by omega)
 exact⟨c,b,g,k,m,n,j.Cy a d f c b g k m n⟩
def Zw(b:Ak)(a:D):K:=if b=L then-(a:K)-1 else(a:K)+1
theorem OL.bA{l:C Ab}{e:Ah}(q:WF l e){a g d:D}(p:By e a g d){c:BC}{i:K}(s:OL e g d c i)(f:Ak):i=Zw f a↔c=⟨(e.at a).As,f,L⟩:=by
 rcases s with⟨rfl,rfl⟩|⟨y,b,z,m,n⟩
 .constructor;.intro h;unfold Zw at h;omega
  .intro h;cases(Aij BC.is h)
 .let⟨o,x,r⟩:=c
  have m:(e.at b).As=o:=m;have n:i=if x=L then-(b:K)-1 else b+1:=n;subst(y:r=L);unfold Zw;constructor;.grind
  .intro h;have j:=Aij BC.As h;have k:=Aij BC.next h;have j:o=(e.at a).As:=j;have k:x=f:=k;have:b=a:=q.IU a b g d p z (by omega);grind
theorem OL.nk{e:Ah}{f d:D}{a:BC}{b:K}(c:OL e f d a b):b=0↔¬a.is=L:=by
 rcases c with⟨rfl,rfl⟩|⟨i,g,j,k,m⟩;.exact⟨λ_ h=>(by cases h),Om⟩
 grind
theorem OL.E9{e d:Ah}{c b:D}{f:BC}{g:K}(i:OL e c b f g)(o:∀a,By e a c b->By d a c b/\(d.at a).As=(e.at a).As):OL d c b f g:=by
 rcases i with h|⟨j,a,m,n,k⟩;.exact .i h
 .exact .j ⟨j,a,P,by grind,k⟩
theorem Do.AM{e:Ah}{t:C (C (C K))}(g:Do e t){b:D}{c:AP}(m:b<e.T.l)(j:D4 (e.at b) c)(G:c.A5=(e.at b).A5):Do (e.AM b c) t:=by
 have H:∀{d i f},By e d i f->By _ d i f/\((e.AM b c).at d).As=(e.at d).As:=λ{d i f} o=>by
  unfold By at o⊢;rw[D0,Ee m];split;.rename_i z;subst z;rw[j.AN,j.Ao,j.As];grind
  omega
 have k:∀a,((e.AM b c).at a).A5=(e.at a).A5:=λa=>by rw[Ee m];grind
 exact⟨by rw[D0];exact g.AX,λa n y=>by rw[k];exact g.E_ a _ y,λp f a n E F q r s=>by unfold BT;rw[k];exact(g.Cy p f a n E F q r s).E9 P⟩
theorem Do.GA{e:Ah}{t:C (C (C K))}(k:Do e t){g a d f:D}(F:a<e.T.l){I:M}{o:Ak}{q:C (C K)}{p:C K}{V:K}(n:t[a]? =A q)(z:q[d]? =A p)(N:p[f]? =A V)(W:By e g a d)(h:Fk (e.at a).A5 d f):Do (e.AM a {e.at a with A5:=C5 (e.at a).A5 d f ⟨(e.at g).As,o,L⟩,AB:=C5 (e.at a).AB d f I}) (t.set a (q.set d (p.set f (Zw o g)))):=by
 have Z:=(Aid.1 n).1;have Y:=(Aid.1 N).1;have R:D4 (e.at a) {e.at a with A5:=C5 (e.at a).A5 d f ⟨(e.at g).As,o,L⟩,AB:=C5 (e.at a).AB d f I}:=⟨B,B,B,B,B,S0 _ _ _ _,B,S0 _ _ _ _⟩;generalize X:({e.at a with A5:=C5 (e.at a).A5 d f ⟨(e.at g).As,o,L⟩,AB:=C5 (e.at a).AB d f I})=m at R;have E:m.A5=C5 (e.at a).A5 d f ⟨(e.at g).As,o,L⟩:=by grind
 have xa:∀{r b c},By e r b c->By (e.AM a m) r b c/\((e.AM a m).at r).As=(e.at r).As:=λ{r b c} S=>by unfold By at S⊢;rw[D0,Ee F];grind
 refine⟨by rw[Aiv,D0];exact k.AX,λb H j=> ?_,λb c i H Q J j y s=> ?_⟩
 .rw[Ee F];rcases IM n j with⟨rfl,rfl⟩|⟨G,j⟩
  .rw[Af B,R.A5,<-k.E_ b q n];refine Ajc λU=> ?_;rw[AiL,AiL];by_cases T:U=d;.subst T;rw[AiF (Aid.1 z).1,z];show A (p.set f _).l=A p.l;rw[Aiv]
   .grind
  .rw[Ad G];exact k.E_ b H j
 .rw[Ee F];rcases IM n j with⟨rfl,rfl⟩|⟨G,j⟩
  .rw[Af B];rcases IM z y with⟨rfl,rfl⟩|⟨xb,y⟩
   .rcases IM N s with⟨rfl,rfl⟩|⟨xc,s⟩
    .right;have:BT m c i=⟨(e.at g).As,o,L⟩:=by rw[Xv,E];exact OS h
     rw[this];exact⟨B,g,P,P,B⟩
    .have:BT m c i=BT (e.at b) c i:=by
      rw[Xv,Xv,E];exact I1 Om
     rw[this]
     exact(k.Cy b c i q p J n z s).E9 P
   .have:BT m c i=BT (e.at b) c i:=by
     rw[Xv,Xv,E];exact I1 Om
    rw[this]
    exact(k.Cy b c i q Q J n y s).E9 P
  .rw[Ad G];exact(k.Cy b c i H Q J j y s).E9 P
section
variable{w:Aa->Bz} {h:G} {l:C Ab} {x:Aa} {e:Ah} {t:C (C (C K))} {v:K} {u:Bz->F}
theorem Cs.iQ(i:Cs w h l x e t v u){c:D}(n:c<e.T.l)(k:C (C BC)):Cs w h l x (e.AM c {e.at c with A5:=k}) t v u where
 N:=i.N
 lv:=i.lv
 Ci:=i.Ci
 tg:=i.tg
 D8:=λp=>by
  have f:∀(a:D){r:Type}(j:AP->r),(j _=j _)->j ((e.AM c {e.at c with A5:=k}).at a)=j (e.at a):=λa r j h=>by
   rw[Ee n];split;.rename_i m;subst m;exact h
   .rfl
  have d:=i.D8 p
  cases p with
  |T=>show AF h _ _ 7 _;rw[(funext λa=>by unfold E0;rw[f a (λb=>b.A4) B,f a (λb=>b.AN) B,f a (λb=>b.Ao) B,f a (λb=>b.As) B]:E0 u _=E0 u e),D0];exact d
  |Ap a=>intro g;rw[D0]at g;rw[f a (λb=>b.Ap) B];exact d g
  |AB a=>intro g;rw[D0]at g;rw[f a (λb=>b.AB) B];exact d g
  |Aw a z=>intro H o;rw[f a (λb=>b.AB) B]at o;exact d H o
  |AI a=>intro g;rw[D0]at g;rw[f a (λb=>b.AI) B];exact d g
  |Bu=>exact d
  |A5 a=>exact d
  |BS a z=>exact d
  |Ae=>
   have y:(e.AM c {e.at c with A5:=k}).T.f Hk=e.T.f Hk:=by
    have:(e.AM c {e.at c with A5:=k}).T.m Hk=e.T.m Hk:=by
     refine Ajc λq=> ?_;rw[AiL,AiL];show((e.T.set c _)[q]?).map Hk=_;by_cases m:q=c;.subst m;rw[AiF n,Cu n];rfl
     grind
    grind
   show AF h _ _ 1 (e.AM c {e.at c with A5:=k}).T;rcases(d:AF h _ _ 1 _)with⟨E,F⟩|⟨s,m,E,F,J,G⟩;.grind
   .exact .j ⟨s,m,by rw[D0];grind,by rw[D0];grind,by rw[D0,y];omega,G⟩
  |E2=>trivial
  |DK=>trivial
  |Bw I=>trivial
end
theorem SM{g:Type}{h:G}{a:F}{b:g->C _}{f:D}{c:C _}(d:AF h a b f c):FX a=L:=by rcases d with⟨rfl,_⟩|⟨i,j,rfl,_⟩<;>rfl
theorem X8{k:Aa->Bz}{h:G}{j:C Ab}{l:Aa}{e:Ah}{u:C (C (C K))}{y:K}{d:Bz->F}(b:Cs k h j l e u y d){a:D}(c:a<e.T.l):Ct (E0 d e a)=L:=by have f:=SM (b.D8 (.Ap a) c);have g:=SM (b.D8 (.AB a) c);have i:=SM (b.D8 (.AI a) c);rw[EC];show List.all [_,_,_,_,_,_,_] FX=L;simp only[AiK,f,g,i];rfl
theorem Cs.X7{k:Aa->Bz}{h:G}{j:C Ab}{l:Aa}{e:Ah}{u:C (C (C K))}{y:K}{a:Bz->F}(i:Cs k h j l e u y a){b:D}(g:b<e.T.l):∃c,AZ 7 [a .T,.n b]=A (.p c (b*7))/\h.AU c (b*7) 7=A (E0 a e b):=by
 let⟨c,d⟩:=Dm (f:=E0 a e) (w:=7) (λ_=>B) (i.D8 .T) (Ga g)
 exact⟨c,d.ia,d.AU (f:=E0 a e) (w:=7) (λ_=>B) (Ga g)⟩
theorem fw{a:AP}{c d:D}{f:M}{b:BC}(h:BT a c d=b):CE a c d f b=(a,Ac,0):=Af h
theorem fu{a:AP}{b c:D}{g:M}{d:BC}(h:BT a b c≠d)(f:(BT a b c).is=L):CE a b c g d=(a,Ac,6):=by unfold CE;rw[Ad h,Af f]
theorem fv{a:AP}{b c:D}{f:M}{d:BC}(h:BT a b c≠d)(g:¬(BT a b c).is=L):CE a b c f d=({a with A5:=C5 a.A5 b c d,AB:=C5 a.AB b c f},L,0):=by unfold CE;rw[Ad h,Ad g]
section
variable{t:Fu} {h:G} {e:Ah} {u:C (C (C K))} {y:K} {v:Aa->Prop}
theorem s3(T:Bx t h e u y v)(x:Do e u)(Y:Bn t.l e){f c g i:D}(k:By e f c g)(d:c<e.T.l)(xF:Fk (e.at c).AB g i)(xi:Fk (e.at c).A5 g i)(j:M):(j.Ai=0->∃l,W9 (Ar 175) [.p t.x 0,.n f,.n i,.S (M.c j)] h=A (.b Ac,l)/\Bx t l e u y v/\BD v h l)/\(j.Ai≠0->∃l xg,W9 (Ar 175) [.p t.x 0,.n f,.n i,.S (M.c j)] h=A (.b (CE (e.at c) g i j ⟨(e.at f).As,Ac,L⟩).2.1,l)/\Bx t l (e.AM c (CE (e.at c) g i j ⟨(e.at f).As,Ac,L⟩).1) xg (if(CE (e.at c) g i j ⟨(e.at f).As,Ac,L⟩).2.2≠0 then 6 else y) v/\Do (e.AM c (CE (e.at c) g i j ⟨(e.at f).As,Ac,L⟩).1) xg/\BD v h l):=by
 have xk:=k.1;have x5:=Y.W.sh.AX;let⟨xo,o,x6,x4,Q,xh,xl,yh⟩:=box h (.I 2 (M.c j))
 have I:∀c,v c->Lv h c:=λc d=>T.Dy d;have xu:=T.V Q;let⟨xO,N,z,xG⟩:=xu
 let⟨xP,ya,yr⟩:=z.X7 xk
 have ys:=z.cv;let⟨m,p,xK,xI,w,G,yf,yi⟩:=box o (.I 7 (E0 N e f))
 let⟨yD,yw⟩:=F0 o (b:=7) [.n 0,.n 0,.n 0,.n 0,.sn,.sn,.sn] (c:=E0 N e f) xK xI B (X8 z xk)
 have J:=Bx.V ⟨xO,N,z,xG⟩ w;have ye:=(w.N xl).t xh;have s:=Q.AQ w;have x3:=GJ (a:=f) (b:=1) (by omega) (by omega);refine⟨λxC=>⟨p,Bd B B ?_,J.sub λc d=>.i (.i d),λc d=>s.N (I c d)⟩,λxC=> ?_⟩;.rw[N8.1];simp only[QY,H (Fp t.x), *]
 .have xv:=J;let⟨xp,X,P,xj⟩:=J
  let⟨yt,yn,xq,xc,xd,xe,xf⟩:=x.Cp d xi
  let⟨yg,xn,xM⟩:=xF
  let⟨yA,xN⟩:=Bo xM
  have xr:Fo (Fo v h o) o p xo:=by grind
  have R:Fo (Fo v h o) o p m:=by grind
  have yB:=P.N;have yj:p.AA m 1=A (.n c):=by rw[AJ G];show A (F.n (e.at f).AN)=_;rw[k.2.1]
  have yl:p.AA m 2=A (.n g):=by rw[AJ G];show A (F.n (e.at f).Ao)=_;rw[k.2.2]
  let⟨xQ,xR,xU,U,x7,yo,x8,yp,x9,yq,yx,E,xw⟩:=P.mc xc xd xe (f+1)
  have q:=xw.FQ (by grind) xj;have xb:=xf.bA Y.W k Ac;have xE:=xf.nk;by_cases Z:xq=f+1;.rw[fw (xb.1 Z),ME d,Ad (λr=>r B)];refine⟨p,u,Bd B B ?_,xv.sub λc d=>.i (.i d),x,λc d=>s.N (I c d)⟩;rw[N8.1];simp only[QY,H (Fp t.x),N8.2.1, *]
  .have xm:=λr=>Z (xb.2 r);by_cases xa:xq=0
   .rw[fv xm (xE.1 xa),Ad (λr=>r B)];have xH:=q.1;have xV:¬(0=(f:K)+1):=by omega
    have yC:=E.cv;have yk:U.AA m 1=A (.n (c:K)):=by rw[AJ ((q.2 m R).t G)];show A (F.n (e.at f).AN)=_;rw[k.2.1]
    have ym:U.AA m 2=A (.n (g:K)):=by rw[AJ ((q.2 m R).t G)];show A (F.n (e.at f).Ao)=_;rw[k.2.2]
    have yv:=B2 ((q.2 xo xr).t ((w.N xl).t xh));let⟨xB,yc,xW,xX,xY,xZ,x0,x1,x2⟩:=E.Cy d
    let⟨xT,yd,yu⟩:=E.E_ d xn
    let⟨xS,xs,yb,_,_,yy,xz,xx⟩:=E.Q9 d xn xN j
    have V:=xx.FQ (by grind) xH;have xJ:c<(e.Aw c g i j).T.l:=by unfold Ah.Aw;rw[D0];grind
    have S:=xz.iQ xJ (C5 (e.at c).A5 g i ⟨(e.at f).As,Ac,L⟩);have xD:(e.Aw c g i j).AM c {(e.Aw c g i j).at c with A5:=C5 (e.at c).A5 g i ⟨(e.at f).As,Ac,L⟩}=e.AM c {e.at c with A5:=C5 (e.at c).A5 g i ⟨(e.at f).As,Ac,L⟩,AB:=C5 (e.at c).AB g i j}:=by unfold Ah.Aw;rw[MD,Hc d];rfl
    rw[xD]at S;refine⟨xs,_,Bd B B ?_,⟨xp,X,S,λc d=>V.1 c (.i (.i d))⟩,x.GA d xc xd xe k xi,λc d=>(V.2 c (.i (.i d))).t ((q.2 c (.i (.i d))).t (s.N (I c d)))⟩;rw[N8.1];simp only[QY,H (Fp t.x),N8.2.1,N8.2.2.1,N8.2.2.2,H (H4 xB c 5), *]
   .have xL:(BT (e.at c) g i).is=L:=by grind
    rw[fu xm xL,ME d,Af (by grind)];let⟨xt,yz,xA,xy⟩:=P.S1 6
    have W:=xy.FQ (by grind) xj;refine⟨xt,u,Bd B B ?_,⟨xp,X,xA,λc d=>W.1 c (.i (.i d))⟩,x,λc d=>(W.2 c (.i (.i d))).t (s.N (I c d))⟩;rw[N8.1];simp only[QY,H (Fp t.x),N8.2.1,N8.2.2.1,xa, *]
end
section
variable{t:Fu} {h:G} {e:Ah} {v:C (C (C K))} {w:K} {u:Aa->Prop}
theorem s4(S:Bx t h e v w u)(q:Do e v)(U:Bn t.l e){d c f g:D}(k:By e d c f)(i:c<e.T.l)(xv:Fk (e.at c).AB f g)(xc:Fk (e.at c).A5 f g)(j:M):∃I xb,W9 (Ar 177) [.p t.x 0,.n d,.n g,.S (M.c j)] h=A (.b (CE (e.at c) f g j ⟨(e.at d).As,L,L⟩).2.1,I)/\Bx t I (e.AM c (CE (e.at c) f g j ⟨(e.at d).As,L,L⟩).1) xb (if(CE (e.at c) f g j ⟨(e.at d).As,L,L⟩).2.2≠0 then 6 else w) u/\Do (e.AM c (CE (e.at c) f g j ⟨(e.at d).As,L,L⟩).1) xb/\BD u h I:=by
 have xe:=k.1;have x1:=U.W.sh.AX;let⟨xE,o,x2,x0,N,xZ,ya,yd⟩:=box h (.I 2 (M.c j))
 have xz:∀c,u c->Lv h c:=λc i=>S.Dy i;have xm:=S.V N;let⟨xF,z,r,xw⟩:=xm
 let⟨xI,x6,yn⟩:=r.X7 xe
 have yo:=r.cv;let⟨l,m,xB,xy,Q,x,yb,ye⟩:=box o (.I 7 (E0 z e d))
 let⟨yz,ys⟩:=F0 o (b:=7) [.n 0,.n 0,.n 0,.n 0,.sn,.sn,.sn] (c:=E0 z e d) xB xy B (X8 r xe)
 have T:Bx t m e v w (Fo (Fo u h o) o m):=Bx.V ⟨xF,z,r,xw⟩ Q;have xj:=N.AQ Q;have xX:=dx (a:=d) (by unfold DO;omega);have xW:=Gu (a:= -d) (b:=1) (by omega) (by omega);let⟨xh,E,G,xd⟩:=T
 let⟨yp,yj,xi,X,Y,Z,xa⟩:=q.Cp i xc
 let⟨yc,xg,xC⟩:=xv
 let⟨yw,xD⟩:=Bo xC
 have yx:=G.N;have yf:m.AA l 1=A (.n c):=by rw[AJ x];show A (F.n (e.at d).AN)=_;rw[k.2.1]
 have yh:m.AA l 2=A (.n f):=by rw[AJ x];show A (F.n (e.at d).Ao)=_;rw[k.2.2]
 let⟨xJ,xK,xN,p,x3,yk,x4,yl,x5,ym,yt,s,xn⟩:=G.mc X Y Z (-d-1)
 have y:=xn.FQ (by grind) xd;have W:=xa.bA U.W k L;have xY:=xa.nk;by_cases V:xi= -d-1;.rw[fw (W.1 V),ME i,Ad P];refine⟨m,v,Bd B B ?_,T.sub P,q,λc i=>xj.N (xz c i)⟩;rw[Uh.1];simp only[QY,H (Fp t.x), *]
 .have xf:BT (e.at c) f g≠⟨(e.at d).As,L,L⟩:=λJ=>V (W.2 J);by_cases xt:xi=0
  .rw[fv xf P,Ad (λJ=>J B)];have xx:=y.1;have xO:¬(0= -(d:K)-1):=by omega
   have yy:p.AA t.x 1=A (E .T):=s.cv;have yg:p.AA l 1=A (.n c):=by rw[AJ ((y.2 l P).t x)];show A (F.n (e.at d).AN)=_;rw[k.2.1]
   have yi:p.AA l 2=A (.n (f:K)):=by rw[AJ ((y.2 l P).t x)];show A (F.n (e.at d).Ao)=_;rw[k.2.2]
   have yr:p.AU xE 0 2=A (M.c j):=B2 P;let⟨xs,x8,xP,xQ,xR,xS,xT,xU,xV⟩:=s.Cy i
   let⟨xM,x9,yq⟩:=s.E_ i xg
   let⟨xL,xk,x7,_,_,yu,xq,xo⟩:=s.Q9 i xg xD j
   have xG:=xo.FQ (by grind) xx;have xA:c<(e.Aw c f g j).T.l:=by unfold Ah.Aw;rw[D0];grind
   have R:=xq.iQ xA (C5 (e.at c).A5 f g ⟨(e.at d).As,L,L⟩);have xu:(e.Aw c f g j).AM c {(e.Aw c f g j).at c with A5:=C5 (e.at c).A5 f g ⟨(e.at d).As,L,L⟩}=e.AM c {e.at c with A5:=C5 (e.at c).A5 f g ⟨(e.at d).As,L,L⟩,AB:=C5 (e.at c).AB f g j}:=by unfold Ah.Aw;rw[MD,Hc i];rfl
   rw[xu]at R;refine⟨xk,_,Bd B B ?_,⟨xh,E,R,P⟩,q.GA i X Y Z k xc,P⟩;rw[Uh.1];simp only[QY,H (Fp t.x),Uh.2.1,Uh.2.2,H (H4 xs c 5), *]
  .rw[fu xf P,ME i,Af (by grind)];let⟨xl,yv,xr,xp⟩:=G.S1 6
   have xH:=xp.FQ (by grind) xd;refine⟨xl,v,Bd B B ?_,⟨xh,E,xr,P⟩,q,P⟩;rw[Uh.1];simp only[QY,H (Fp t.x),Uh.2.1,xt, *]
theorem m2{a:D}(o:Bx t h e v w u)(G:e.T.l<=400)(d c f:K)(l:a<e.T.l):∃j,jj W9 178 4 [.n a,.p t.x 0,.n d,.n c,.n f] h=(if(e.at a).AN=d/\(e.at a).Ao=c/\(e.at a).As=f/\0<a then A (.n a,j)else jj W9 178 3 [.n a,.p t.x 0,.n d,.n c,.n f] j)/\AR h j:=by
 let⟨U,k,g,F⟩:=o
 let⟨E,I,S⟩:=g.X7 l
 have T:=g.cv;let⟨R,b,z,y,m,i,J,M⟩:=box h (.I 7 (E0 k e a))
 let⟨W,V⟩:=F0 h (b:=7) [.n 0,.n 0,.n 0,.n 0,.sn,.sn,.sn] (c:=E0 k e a) z y B (X8 g l)
 have N:b.AA _ 1=A _:=AJ i 1;have P:b.AA _ 2=A _:=AJ i 2;have Q:b.AA _ 3=A (.n (e.at a).As):=AJ i 3;refine⟨b,?_,m⟩;rw[V_.2.2.2.1];by_cases p:(e.at a).AN=d
 .by_cases q:(e.at a).Ao=c
  .by_cases r:(e.at a).As=f
   .by_cases s:0<a
    .rw[Af ⟨p,q,r,s⟩];have x:(a:K)>0:=by omega
     simp only[QY,H (Fp t.x), *]
    .rw[Ad Om];have x:¬(a:K)>0:=by omega
     simp only[QY,H (Fp t.x), *]
   .rw[Ad Om];simp only[QY,H (Fp t.x), *]
  .rw[Ad Om];simp only[QY,H (Fp t.x), *]
 .rw[Ad Om];simp only[QY,H (Fp t.x), *]
theorem s5(b:Bx t h e v w u)(E:e.T.l<=400)(f d g:K){c:D}(Q:c<e.T.l)(R:(e.at c).AN=f/\(e.at c).Ao=d/\(e.at c).As=g/\0<c)(U:∀a,a<c->¬((e.at a).AN=f/\(e.at a).Ao=d/\(e.at a).As=g/\0<a)):∃z,W9 (Ar 178) [.p t.x 0,.n f,.n d,.n g] h=A (.n c,z)/\AR h z:=by
 have J:∀{b:G}(_:Bx t b e v w u),∃m,b.AA t.x 1=A m/\Ea [m]=A (.n e.T.l):=λ{b} T=>by
  let⟨Y,N,y,W⟩:=T
  have k:=C4 (y.D8 .T);rw[Aip]at k;exact⟨N .T,y.cv,k⟩
 let⟨_,p,r,j⟩:=Ez (h:=c) (f:=λa _ b=>jj W9 178 2 [.p t.x 0,.n f,.n d,.n g,.n a] b) (g:=λa _ b=>AR h b)
  (λa Z V P j=>by
   have q:a<(e.T.l:K):=by omega
   let⟨m,x,k⟩:=J (b.ext j)
   let⟨p,l,o⟩:=m2 (b.ext j) E f d g (a:=a) (by omega)
   rw[Ad (U a P)]at l;refine⟨(),p,?_,j.AQ o⟩;show jj W9 178 2 _ _=jj W9 178 2 _ _;rw[V_.2.2.1];simp only[QY,x,k,q];rw[l,V_.2.2.2.2];simp only[↓H (BF (a:=a) (by omega))])
  (b:=()) (a:=h) (λX S=>⟨B,S⟩)
 have r:jj W9 178 2 [.p t.x 0,.n f,.n d,.n g,.n 0] h=jj W9 178 2 [.p t.x 0,.n f,.n d,.n g,.n c] p:=r;let⟨m,x,k⟩:=J (b.ext j)
 have q:c<(e.T.l:K):=by omega
 let⟨M,l,o⟩:=m2 (b.ext j) E f d g Q
 rw[Af R]at l;refine⟨M,Bd B B ?_,j.AQ o⟩;rw[V_.1,r,V_.2.2.1];simp only[QY,x,k,q];grind
end
structure MJ(z:G)(n:D)(w:Aa->Bz)(h:G)(q:Aa)(c:AP)(y:C (C K))(u s t m:F)(p r:D->F):Prop where
 N:h.N q=A (.I 7 [.n c.A4,.n c.AN,.n c.Ao,.n c.As,u,s,t])
 lv:Lv h q
 Ci:w q=.Bw n
 Ap:AF h u M.c 2 c.Ap
 FS:Tg w u (.Ap n)
 AB:NW M.c 2 w h (.AB n) (.Aw n) s p c.AB
 AI:AF h t Bq 1 c.AI
 FR:Tg w t (.AI n)
 K_:NW Bq 1 w h (.A5 n) (.BS n) m r y
 BX:∀a,Lv z a->w a=.DK
 ext:AR z h
section
variable{z:G} {n:D} {w:Aa->Bz} {h:G} {q:Aa} {c:AP} {y:C (C K)} {u s t m:F} {p r:D->F}
theorem MJ.Ao(f:MJ z n w h q c y u s t m p r){j:D}(xs:j<=1000)(xj:c.AB.l<1000000)(xk:y.l<1000000):∃P xc k x l,Gi [(.i .u8 0),(.n 0)] 2 16 h.next [.n j,.n j]=A (P,xc)/\(∀(H:F×G->R),((CB 1 1 (h.V P).next [xc]).b λa=>(Eo 1 24 (G.V (h.V P) a.1) [s,a.2]).b H)=H (k,x))/\A1 1 x [.p q 5,k]=A (Ax,l)/\
  ∃W xd S E xr xp xh,Gi [(.n 0)] 1 8 l.next [.n j,.n j]=A (W,xd)/\(∀(H:F×G->R),((CB 1 1 (l.V W).next [xd]).b λa=>(Eo 1 24 (G.V (l.V W) a.1) [m,a.2]).b H)=H (S,E))/\
   MJ z n xr E q {c with AB:=c.AB++[Bv j AK]} (y++[Bv j 0]) u k t S xp xh:=by
 let⟨k,x,Y,xm,V,T,J⟩:=f.AB.EK (by grind) (by grind) xj (H:=.I (j*2) ((Bv j AK).f M.c)) (UL h j) OT B B
 have xi:=(T q f.lv (by rw[f.Ci];intro g;cases g)).1.t f.N
 have xt:=(T q f.lv (by rw[f.Ci];intro g;cases g)).2
 have Z:=G9 (d:=5) (a:=k) xi (by omega) (by omega) (CS V.o).1 (CS V.o).2
 have xg:DJ 5 [k] [.n c.A4,.n c.AN,.n c.Ao,.n c.As,u,s,t]=[.n c.A4,.n c.AN,.n c.Ao,.n c.As,u,k,t]:=B
 rw[xg]at Z
 have X:∀a,a≠q->(x.set q (.I 7 [.n c.A4,.n c.AN,.n c.Ao,.n c.As,u,k,t])).N a=x.N a:=λa e=>by rw[AY,Ad e]
 have xa:(x.set q (.I 7 [.n c.A4,.n c.AN,.n c.Ao,.n c.As,u,k,t])).N q=A (.I 7 [.n c.A4,.n c.AN,.n c.Ao,.n c.As,u,k,t]):=by rw[AY,Af B]
 have xo:∀a,Lv (x.set q (.I 7 [.n c.A4,.n c.AN,.n c.Ao,.n c.As,u,k,t])) a=Lv x a:=by grind
 refine⟨_,_,k,x,_,UB h.next j (by omega),xm,Z,?_⟩
 generalize x.set q (.I 7 [.n c.A4,.n c.AN,.n c.Ao,.n c.As,u,k,t])=l at X xa xo
 have U:∀a,Lv h a->w a≠.AB n->w a≠.Bw n->l.N a=h.N a/\Lv l a:=λa e d P=>⟨(X a (λg=>P (by rw[g];exact f.Ci))).t (T a e d).1,by grind⟩
 have i:MJ z n Y l q {c with AB:=c.AB++[Bv j AK]} y u k t m (Cf p c.AB.l (.Z h.next 0 j (j+1) 2)) r:={
  N:=xa
  lv:=by grind
  Ci:=(J q f.lv).t f.Ci
  Ap:=f.Ap.Av λa e d=>U a e (by rw[f.FS a d];intro g;cases g) (by rw[f.FS a d];intro g;cases g)
  FS:=λa d=>(J a (f.Ap.Dh d)).t (f.FS a d)
  AB:=V.Av λa e d=>⟨X a (λg=>by subst g;rw[(J a f.lv).t f.Ci]at d;rcases d with d|⟨xl,d⟩<;>cases d),by grind,B⟩
  AI:=f.AI.Av λa e d=>U a e (by rw[f.FR a d];intro g;cases g) (by rw[f.FR a d];intro g;cases g)
  FR:=λa d=>(J a (f.AI.Dh d)).t (f.FR a d)
  K_:=f.K_.Av λa e d=>by
   have xu:w a≠.AB n/\w a≠.Bw n:=by rcases d with d|⟨xl,d⟩<;>rw[d]<;>grind
   grind
  BX:=λa e=>(J a (f.ext.lv e)).t (f.BX a e)
  ext:=λa e=>by have xq:=f.BX a e;have:=U a (f.ext.lv e) (by grind) (by grind);exact⟨this.1.t (f.ext.N e),this.2⟩}
 let⟨S,E,xb,xn,xf,I,Q⟩:=i.K_.EK (by grind) (by grind) xk (H:=.I (j*1) ((Bv j 0).f Bq)) (dU l j) OT B B
 refine⟨_,_,S,E,xb,Cf p c.AB.l (.Z h.next 0 j (j+1) 2),Cf r y.l (.Z l.next 0 j (j+1) 1),du l.next j (by omega),xn,?_⟩
 have xe:∀a,Lv l a->Y a≠.A5 n->E.N a=l.N a/\Lv E a/\xb a=Y a:=by grind
 exact{
  N:=(I q i.lv (by rw[i.Ci];intro g;cases g)).1.t i.N
  lv:=(I q i.lv (by rw[i.Ci];intro g;cases g)).2
  Ci:=(Q q i.lv).t i.Ci
  Ap:=i.Ap.Av λa e d=>I a e (by rw[i.FS a d];intro g;cases g)
  FS:=λa d=>(Q a (i.Ap.Dh d)).t (i.FS a d)
  AB:=i.AB.Av λa e d=>xe a e (by grind)
  AI:=i.AI.Av λa e d=>I a e (by rw[i.FR a d];intro g;cases g)
  FR:=λa d=>(Q a (i.AI.Dh d)).t (i.FR a d)
  K_:=xf
  BX:=λa e=>(Q a (i.ext.lv e)).t (i.BX a e)
  ext:=λa e=>by have xq:=i.BX a e;have:=I a (i.ext.lv e) (by grind);exact⟨this.1.t (i.ext.N e),this.2⟩}
end
def ZF{q:Type}{d:G}{e:F}{b c:q->C _}{f:D}{a:C _}(p:AF d e b f a)(j:∀g∈a,b g=c g):AF d e c f a:=by
 rcases p with k|⟨h,i,l,m,n,o⟩;.exact .i k
 .exact .j ⟨h,i,l,m,by rw[n,YC a j],o⟩
open Classical in
def eS{i:Aa->Bz}{b:G}{c:Aa}{n:C F}(Q:b.N c=A (.I 8 n))(xa:Lv b c)(xl:i c=.E2){H:Type}{r:F}{k:H->C F}{m s:D}{t:C H}(xc:AF b r k m t){h:Bz}(xe:Tg i r h)(xj:h≠.E2){j:D}(xk:j<8)(X:∀c,(k c).l=m){p:H}{E:F}(T:Ct (k p)=L)(Y:E.I=k p)(U:(t.l+1)*s<=Hs):
  ∃e g l z,(∀(I:F×G->R),((CB 1 m b.next [E]).b λa=>(Eo m s (G.V b a.1) [r,a.2]).b I)=I (e,g))/\g.N c=A (.I 8 n)/\A1 1 g [.p c j,e]=A (Ax,l)/\l.N c=A (.I 8 (DJ j [e] n))/\Lv l c/\AF l e k m (t++[p])/\Tg z e h/\
   (∀a,Lv b a->i a≠h->i a≠.E2->l.N a=b.N a/\Lv l a)/\(∀a,Lv b a->z a=i a)/\(∀a,Lv b a->i a≠h->g.N a=b.N a/\Lv g a)/\∀a,¬Lv b a->¬AE e a->z a=h:=by
 let⟨e,g,Z,u,xi,xf⟩:=GS (f:=k) (w:=m) (b:=p) (o:=E) (h:=s) X T Y xc U
 have xg:∀d,Lv b d->i d≠h->AE r d:=λd W q=>Aih λj=>q (xe d j)
 have J:∀d,Lv b d->i d≠h->g.N d=b.N d/\Lv g d:=by grind
 have xb:i c≠h:=by grind
 have M:=(J c xa xb).1.t Q
 have N:=G9 (d:=j) (a:=e) M (by omega) (by omega) (CS u).1 (CS u).2
 have xd:∀a,a≠c->(g.set c (.I 8 (DJ j [e] n))).N a=g.N a:=λa V=>by rw[AY,Ad V]
 have S:(g.set c (.I 8 (DJ j [e] n))).N c=A (.I 8 (DJ j [e] n)):=by rw[AY,Af B]
 refine⟨e,g,_,λa=>if Lv b a then i a else if AE e a then .DK else h,Z,M,N,S,by grind,u.Av λd W q=>⟨xd d (λxh=>q (by grind)),by grind⟩,λa q=> ?_,P,P,J,P⟩<;>grind
def XH(b:Bz->F)(d h g:D)(k j e m:F)(i f:D->F):Bz->F
 | .Ap a=>if a=d then k else b (.Ap a)
 | .AB a=>if a=d then j else b (.AB a)
 | .Aw a c=>if a=d then(if c<h then i c else .sn)else b (.Aw a c)
 | .AI a=>if a=d then e else b (.AI a)
 | .A5 a=>if a=d then m else b (.A5 a)
 | .BS a c=>if a=d then(if c<g then f c else .sn)else b (.BS a c)
 |l=>b l
def Zf{c:Type}(a:C _)(b:c):(a++[b]).l=a.l+1:=Aio
def Fq:Bz->Ak
 | .Ap _| .AB _| .Aw _ _| .AI _| .A5 _| .BS _ _| .Bw _=>L
 |_=>Ac
open Classical in
def rh{H:Fu}{V n:G}{f:Ah}{I:C (C (C K))}{xs:K}{xm:Aa->Prop}(yh:Bx H V f I xs xm)(xX:I.l=f.T.l)(yR:f.T.l<=400){xC:Aa->Bz}{xz:Aa}{r:AP}{J:C (C K)}{xf xe Z U:F}{xd xa:D->F}(h:MJ V f.T.l xC n xz r J xf xe Z U xd xa)(yl:r.next= -1):∃xv,jj W9 86 1 [.p xz 0,U,.p H.x 0] n=A (.n f.T.l,xv)/\Bx H xv ⟨f.T++[r],f.Ae,f.round,f.Aq⟩ (I++[J]) xs xm/\BD xm V xv:=by
 let⟨yb,l,v,yk⟩:=yh
 have Y:∀W,(Ah.mk (f.T++[r]) f.Ae f.round f.Aq).at W=if W=f.T.l then r else f.at W:=λW=>FG W;have xk:(Ah.mk (f.T++[r]) f.Ae f.round f.Aq).T.l=f.T.l+1:=P;generalize xW:Ah.mk (f.T++[r]) f.Ae f.round f.Aq=x at Y xk;let w:Aa->Bz:=λc=>if Lv V c then yb c else xC c
 have x9:∀c,Lv V c->w c=yb c:=P;let u:Bz->F:=XH l f.T.l r.AB.l J.l xf xe Z U xd xa
 have xg:∀{yH:Type}{yj:yH->C F}{yD yq xE e},AF n xE yj yD yq->Tg xC xE e->e≠.DK->∀c,¬AE xE c->Lv n c/\w c=e:=λyS xK S c g=>⟨P,by show(if _ then _ else _)=_;rw[Ad λym=>S ((xK c g).s.t (h.BX c ym)),xK c g]⟩;have xh:∀e,e≠.DK->∀c,¬AE (l e) c->Lv n c/\w c=e:=λe S c g=>by have:=v.tg _ S c g;exact⟨h.ext.lv P,by grind⟩
 have xu:(I++[J])[f.T.l]? =A J:=by grind
 have xQ:∀d,d≠f.T.l->∀E,(I++[J])[d]? =A E->I[d]? =A E:=P;have xJ:∀e,Fq e=L->(∀c,¬AE (u e) c->Lv n c/\w c=e)/\MM n u x (I++[J]) e:=λe S=>by
  cases e with
  |Ap d=>
   show(∀c,¬AE (if d=_ then xf else l (.Ap d)) c->_)/\(_->AF n (if d=_ then xf else l (.Ap d)) M.c 2 (x.at d).Ap);rw[Y,xk];by_cases j:d=f.T.l;.subst j;rw[Af B,Af B];exact⟨xg h.Ap h.FS (by simp),λ_=>h.Ap⟩
   .rw[Ad j,Ad j];exact⟨P,λxc=>AF.ext (v.D8 (.Ap d) (by omega)) h.ext⟩
  |AI d=>
   show(∀c,¬AE (if d=_ then Z else l (.AI d)) c->_)/\(_->AF n (if d=_ then Z else l (.AI d)) Bq 1 (x.at d).AI);rw[Y,xk];by_cases j:d=f.T.l;.subst j;rw[Af B,Af B];exact⟨xg h.AI h.FR (by simp),λ_=>h.AI⟩
   .rw[Ad j,Ad j];exact⟨P,λxc=>AF.ext (v.D8 (.AI d) (by omega)) h.ext⟩
  |AB d=>
   show(∀c,¬AE (if d=_ then xe else l (.AB d)) c->_)/\(_->AF n (if d=_ then xe else l (.AB d)) (EX λi=>if d=_ then(if i<_ then xd i else .sn)else l (.Aw d i)) 1 (List.range (x.at d).AB.l));rw[Y,xk];by_cases j:d=f.T.l;.subst j;simp only[eq_self,AiJ];exact⟨xg h.AB.o h.AB.t (by simp),λ_=>ZF h.AB.o λi R=>by show[xd i]=[if i<_ then _ else _];rw[Af (AiT.1 R)]⟩
   .simp only[Ad j];exact⟨xh _ (by simp),λxc=>AF.ext (v.D8 (.AB d) (by omega)) h.ext⟩
  |Aw d i=>
   show(∀c,¬AE (if d=_ then(if i<_ then xd i else .sn)else l (.Aw d i)) c->_)/\∀q,(x.at d).AB[i]? =_->AF n (if d=_ then(if i<_ then xd i else .sn)else l (.Aw d i)) M.c 2 q;rw[Y];by_cases j:d=f.T.l
   .subst j;rw[Af B,Af B];by_cases Q:i<r.AB.l
    .rw[Af Q];let⟨q,o⟩:=Bo Q
     exact⟨xg (h.AB.r i q o).1 (h.AB.r i q o).2 (by simp),λq o=>(h.AB.r i q o).1⟩
    .rw[Ad Q];exact⟨λc g=>A_ (CM c) g,λq o=>A_ (Aid.1 o).1 Q⟩
   .rw[Ad j,Ad j];exact⟨xh _ (by simp),λq o=>AF.ext (v.D8 (.Aw d i) q o) h.ext⟩
  |A5 d=>
   show(∀c,¬AE (if d=_ then U else l (.A5 d)) c->_)/\∀E:C (C K),_->AF n (if d=_ then U else l (.A5 d)) (EX λi=>if d=_ then(if i<_ then xa i else .sn)else l (.BS d i)) 1 (List.range E.l);by_cases j:d=f.T.l
   .subst j;simp only[eq_self,AiJ];exact⟨xg h.K_.o h.K_.t (by simp),λE o=>by
     cases xu.s.t o
     exact ZF h.K_.o λi R=>by show[xa i]=[if i<_ then _ else _];rw[Af (AiT.1 R)]⟩
   .simp only[Ad j];exact⟨xh _ (by simp),λE o=>AF.ext (v.D8 (.A5 d) E (xQ d j E o)) h.ext⟩
  |BS d i=>
   show(∀c,¬AE (if d=_ then(if i<_ then xa i else .sn)else l (.BS d i)) c->_)/\∀E q,_->_->AF n (if d=_ then(if i<_ then xa i else .sn)else l (.BS d i)) Bq 1 q;by_cases j:d=f.T.l
   .subst j;rw[Af B];by_cases Q:i<J.l
    .rw[Af Q];let⟨q,o⟩:=Bo Q
     exact⟨xg (h.K_.r i q o).1 (h.K_.r i q o).2 (by simp),λE q o R=>by cases xu.s.t o;exact(h.K_.r i q R).1⟩
    .rw[Ad Q];exact⟨λc g=>A_ (CM c) g,λE q o R=>by cases xu.s.t o;exact A_ (Aid.1 R).1 Q⟩
   .rw[Ad j];exact⟨xh _ (by simp),λE q o R=>AF.ext (v.D8 (.BS d i) E q (xQ d j E o) R) h.ext⟩
  |Bw d=>exact⟨xh _ (by simp),Ais⟩
  |_=>cases S
 have xM:∀d,E0 u x d=if d=f.T.l then[.n r.A4,.n r.AN,.n r.Ao,.n r.As,xf,xe,Z]else E0 l f d:=λd=>by unfold E0;rw[Y d];show[_,_,_,_,(if _ then xf else _),(if _ then xe else _),(if _ then Z else _)]=_;split<;>rfl
 have ys:AF n (l .T) (E0 u x) 7 (List.range f.T.l):=ZF (AF.ext (v.D8 .T) h.ext) λd xc=>by rw[xM,Ad (by have:=AiT.1 xc;omega)]
 have x5:AF n (l .Bu) (EX λd=>u (.A5 d)) 1 (List.range f.T.l):=by have yc:AF V (l .Bu) (EX λd=>l (.A5 d)) 1 (List.range I.l):=v.D8 .Bu;rw[xX]at yc;exact ZF (yc.ext h.ext) λd xc=>by show[l (.A5 d)]=[if d=_ then U else l (.A5 d)];rw[Ad (by have:=AiT.1 xc;omega)]
 have x7:AF n (l .Ae) Hk 1 f.T:=AF.ext (v.D8 .Ae) h.ext;have xr:=xM f.T.l;rw[Af B]at xr;have xS:=(h.ext.N v.lv).t v.N;have x1:=h.ext.lv v.lv;have yd:w H.x=.E2:=(x9 _ v.lv).t v.Ci;have xi:∀e,e≠.DK->Tg w (l e) e:=λe S c g=>(xh e S c g).2;let⟨xo,yO,xw,ya,yn,yL,yv,xT,x2,xy,yz,xO,xl,yI,yT⟩:=eS xS x1 yd ys (h:=.T) (xi .T (by simp)) (by simp) (j:=1) (by omega) (λ_=>B) (p:=f.T.l) (E:=.S (E0 u x f.T.l)) (s:=104) (by rw[xr,EC];simp only[AiK,List.all_nil,SM h.Ap,SM h.AB.o,SM h.AI];rfl) B (EI (by rw[Aip];omega))
 have yt:AF xw (l .Bu) (EX λd=>u (.A5 d)) 1 (List.range f.T.l):=x5.Av λc z g=>xO c z (by rw[xi .Bu (by simp) c g];simp) (by rw[xi .Bu (by simp) c g];simp);have yA:Tg ya (l .Bu) .Bu:=λc g=>(xl c (x5.Dh g)).t (xi .Bu (by simp) c g);have ye:ya H.x=.E2:=(xl _ x1).t yd;have xR:u (.A5 f.T.l)=U:=Af B;let⟨xF,yP,xb,xB,yo,yM,yw,xU,x3,x6,yB,xP,xA,yJ,yU⟩:=eS xT x2 ye yt (h:=.Bu) yA (by simp) (j:=5) (by omega) (λ_=>B) (p:=f.T.l) (E:=U) (s:=24) (by show Ct [u (.A5 f.T.l)]=L;rw[xR,EC];simp[SM h.K_.o]) (by show U.I=[u (.A5 f.T.l)];rw[xR];exact(CS h.K_.o).1) (EI (by rw[Aip];omega))
 have xG:∀c,Lv n c->w c≠.T->w c≠.Bu->w c≠.E2->xb.N c=n.N c/\Lv xb c/\xB c=w c:=λc z s xj j=>by have m:=xO c z s j;have p:=xP c m.2 (by rw[xl c z];exact xj) (by rw[xl c z];exact j);exact⟨p.1.t m.1,p.2,(xA c m.2).t (xl c z)⟩
 have xp:∀c,¬AE (l .Ae) c->xb.N c=n.N c/\Lv xb c/\xB c=.Ae:=λc g=>by have e:=xi .Ae (by simp) c g;have m:=xG c (x7.Dh g) (by rw[e];simp) (by rw[e];simp) (by rw[e];simp);exact⟨m.1,m.2.1,m.2.2.t e⟩
 have yf:xB H.x=.E2:=(xA _ x2).t ye;have x4:Hk r=[.b Ac]:=by unfold Hk;rw[yl];rfl
 let⟨yg,yQ,t,X,yp,yN,yx,xV,yr,x8,yC,xt,xn,yK,yV⟩:=eS xU x3 yf (x7.Av λc _ g=>⟨(xp c g).1,(xp c g).2.1⟩) (h:=.Ae) (λc g=>(xp c g).2.2) (by simp) (j:=6) (by omega) (λ_=>B) (p:=r) (E:=.b Ac) (s:=1) (by rw[x4];rfl) (by rw[x4];rfl) (EI (by omega))
 have xH:∀c,Lv n c->w c≠.T->w c≠.Bu->w c≠.Ae->w c≠.E2->t.N c=n.N c/\Lv t c/\X c=w c:=λc z s xj j r=>by have m:=xG c z s xj r;have p:=xt c m.2.1 (by rw[m.2.2];exact j) (by rw[m.2.2];exact r);exact⟨p.1.t m.1,p.2,(xn c m.2.1).t m.2.2⟩
 have xq:∀c,¬AE xo c->t.N c=xw.N c/\Lv t c/\X c=.T:=λc g=>by have xY:=xy.Dh g;have e:=yz c g;have p:=xP c xY (by rw[e];simp) (by rw[e];simp);have j:=(xA c xY).t e;have m:=xt c p.2 (by rw[j];simp) (by rw[j];simp);exact⟨m.1.t p.1,m.2,(xn c p.2).t j⟩
 have xx:∀c,¬AE xF c->t.N c=xb.N c/\Lv t c/\X c=.Bu:=λc g=>by have xZ:=x6.Dh g;have e:=yB c g;have p:=xt c xZ (by rw[e];simp) (by rw[e];simp);exact⟨p.1,p.2,(xn c xZ).t e⟩
 let xL:Bz->F:=λe=>match e with| .T=>xo| .Bu=>xF| .Ae=>yg| .E2=>.sn|e=>u e
 have xD:∀e,Fq e=L->∀c,¬AE (u e) c->t.N c=n.N c/\Lv t c/\X c=e:=λe s c g=>by have m:=(xJ e s).1 c g;have p:=xH c m.1 (by rw[m.2];rintro rfl;cases s) (by rw[m.2];rintro rfl;cases s) (by rw[m.2];rintro rfl;cases s) (by rw[m.2];rintro rfl;cases s);exact⟨p.1,p.2.1,p.2.2.t m.2⟩
 have yy:∀e,Fq e=L->MM t u x (I++[J]) e:=λe s=>(xJ e s).2.Av λc _ g=>⟨(xD e s c g).1,(xD e s c g).2.1⟩;have yi:Cs X t H.l H.x x (I++[J]) xs xL:={
  N:=by rw[<-xW];exact xV
  lv:=yr
  Ci:=(xn _ x3).t yf
  tg:=λe S c g=>by
   cases e with
   |T=>exact(xq c g).2
   |Bu=>exact(xx c g).2
   |Ae=>exact⟨x8.Dh g,yC c g⟩
   |E2=>exact A_ (CM c) g
   |DK=>exact A_ B S
   |_=>exact(xD _ B c g).2
  D8:=λe=>by
   have W:=yy e
   cases e with
   |T=>show AF t xo (E0 u x) 7 (List.range x.T.l);rw[xk,Ajw];exact xy.Av λc _ g=>⟨(xq c g).1,(xq c g).2.1⟩
   |Bu=>show AF t xF (EX λd=>u (.A5 d)) 1 (List.range (I++[J]).l);rw[Zf,xX,Ajw];exact x6.Av λc _ g=>⟨(xx c g).1,(xx c g).2.1⟩
   |Ae=>show AF t yg Hk 1 x.T;rw[<-xW];exact x8
   |E2=>trivial
   |DK=>trivial
   |_=>exact W B}
 have xI:∀c,xm c->t.N c=V.N c/\Lv t c/\X c=.DK:=λc z=>by
  let⟨s,xj⟩:=yk c z
  have m:=(x9 c s).t xj;have p:=xH c (h.ext.lv s) (by rw[m];simp) (by rw[m];simp) (by rw[m];simp) (by rw[m];simp);exact⟨p.1.t (h.ext.N s),p.2.1,p.2.2.t m⟩
 refine⟨t,?_,⟨X,xL,yi,λc z=>(xI c z).2⟩,λc z=>(xI c z).1⟩;have yu:n.AU xz 0 7=A (E0 u x f.T.l):=by rw[xr];exact B2 h.N
 have yF:xw.AA H.x 5=A (l .Bu):=AJ xT 5;have yG:xb.AA H.x 6=A (l .Ae):=AJ xU 6;have yE:t.AA H.x 1=A xo:=AJ xV 1;have x0:=C4 xy;rw[Aio,Aip,Ajg]at x0;have xN:=Gu (a:=(f.T.l+1:D)) (b:=1) (by omega) (by omega);rw[show(f.T.l+1:D)-1=(f.T.l:K) by omega]at xN;rw[Qy.2.2.1];simp only[QY,xS,yu,yn,yv,yF,yo,yw,yG,yp,yx,yE,x0,xN]
