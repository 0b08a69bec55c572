/- Part of the proof. -/
import Derived.Test.YtbmnfifnenajjaaGreatMad
set_option linter.all false
noncomputable section
open Option renaming some->A,none->O,getD->Option.g,bind->Option.b
open _root_ renaming rfl->B,List->C,Nat->D,if_neg->Ad,if_pos->Af,Option->Ae,Bool->Ah,cond->Aj,Array->Bg,absurd->BF
open Bool renaming true->L,false->Aa
open Go renaming Value->Ba,World->By
open Nat renaming le_refl->CK
open List renaming length->List.l,map->List.m,take->List.t,flatMap->List.f
open Array renaming toList->Array.l,size->Array.z
open Eq renaming trans->Eq.t,symm->Eq.s
open Or renaming inl->Or.i,inr->Or.j
namespace Go.Fg
structure JM(z:AT)(v:G)(s:By)(u:AT)(g:T->Ae BV)(q:D)(w:By):Prop where
 ext:z.le u
 F8:∀a,z a=O->u a≠O->v.next.num<=a.num/\a.num<q
 EJ:∀d c e,u.im d c e->BI u.Fv d c e w
 Fg:∀a d b I c e,g a=A d->d.U6=L->u a=A b->u.im I c e->c≠b.r
 Ca:∀a d b,g a=A d->u a=A b->BR u d b w
 EH:∀j k x E,g j≠O->g k≠O->u j=A x->u k=A E->x.r=E.r->j=k
 lt:∀a b,u a=A b->b.r<w.heap.z
 Ez:s.heap.z<=w.heap.z
 FU:∀c,c<s.heap.z->(∀a b,z a=A b->v.M a≠O->b.r≠c)->w.heap[c]? =s.heap[c]?
 Gf:∀a b,u a=A b->g a≠O->b.r<s.heap.z->∃h f,z h=A f/\v.M h≠O/\f.r=b.r
 Hb:∀d c e,u.im d c e->c<s.heap.z->(∃H F,z.im H c F)\/∃h f,z h=A f/\v.M h≠O/\f.r=c
 HA:∀a,a.num<v.next.num->z a=O->g a=v.M a
 AD:JH s w
def NO(a:G):Prop:=∀b,a.M b≠O->b.num<a.next.num
section
variable{z u l:AT} {v r y:G} {s w p:By} {g n:T->Ae BV} {q:D}
theorem JM.hr(b:JM z v s u g q w)(c:NO r)(d:∀a,a.num<r.next.num->r.M a=g a):HR u r w where
 EJ:=b.EJ
 Fg a j e I G H f:=b.Fg a j e I G H (by rw[<-d a (c a (by grind))];omega)
 Ca a j e f h:=b.Ca a j e (by rw[<-d a (c a (by grind))];omega) h
 EH E F k x f h:=b.EH E F k x (by rw[<-d _ (c _ f)];omega) (by rw[<-d _ (c _ h)];omega)
 lt:=b.lt
 E8:=c
theorem JM.nz(b:JM z v s u g q w)(U:NO r)(V:∀a,a.num<r.next.num->r.M a=g a)(xw:v.next.num<=r.next.num)(e:Fin u r w l y p)(T:∀a,a.num<y.next.num->n a=y.M a)(Y:∀a,y.next.num<=a.num->n a=g a)(xx:y.next.num<=q):JM z v s l n q p:=by
 have xi:∀a d,y.next.num<=a.num->l a=A d->u a=A d:=λa d xf xt=>by
  cases xc:u a with
  |some xs=>rw[e.ext.1 a xs xc]at xt;omega
  |none=>have:=e.F8 a xc (by grind);omega
 have xp:∀a,y.next.num<=a.num->r.M a=O:=λa xf=>by
  cases xc:r.M a with
  |none=>rfl
  |some Q=>have:=U a (by grind);have:=e.up;omega
 exact{
  ext:=b.ext.AI e.ext
  F8:=λa h k=>by
   by_cases f:u a=O;.have:=e.F8 a f k;exact⟨by omega,by omega⟩
   .exact b.F8 a h f
  EJ:=e.hr.EJ
  Fg:=λa Q d xq I xd h xm k xo J=>by
   by_cases f:a.num<y.next.num;.rw[T a f]at h;exact e.hr.Fg a Q d xq I xd h xm k xo J
   .have f:y.next.num<=a.num:=by omega
    rw[Y a f]at h;have S:=xi a d f k;rcases e.Hb xq I xd xo (by rw[J];exact b.lt a d S)with⟨xl,xk,xg⟩|⟨F,xe,W,N,xj⟩;.exact b.Fg a Q d xl I xk h xm S xg J
    .have X:g F≠O:=by rw[<-V F (U F N)];omega
     have:=b.EH F a xe d X (by grind) W S (by omega);subst this;exact N (xp F f)
  Ca:=λa Q d h k=>by
   by_cases f:a.num<y.next.num;.rw[T a f]at h;exact e.hr.Ca a Q d h k
   .have f:y.next.num<=a.num:=by omega
    rw[Y a f]at h;have S:=xi a d f k;refine(b.Ca a Q d h S).Ar e.ext (e.FU d.r (b.lt a d S) λZ xr H x xb=> ?_);have xh:g Z≠O:=by rw[<-V Z (U Z x)];omega
    have:=b.EH Z a xr d xh (by grind) H S xb;subst this;exact x (xp Z f)
  EH:=λc j E G h k H x J=>by
   have xz:∀c j E G,c.num<y.next.num->y.next.num<=j.num->n c≠O->n j≠O->l c=A E->l j=A G->E.r=G.r->False:=by
    intro c j E G xa R h k H x J;rw[T c xa]at h;rw[Y j R]at k;have xb:=xi j G R x;obtain⟨F,xe,W,N,xj⟩:=e.Gf c E H h (by rw[J];exact b.lt j G xb);have X:g F≠O:=by rw[<-V F (U F N)];omega
    have:=b.EH F j xe G X k W xb (by omega);grind
   by_cases xa:c.num<y.next.num
   .by_cases R:j.num<y.next.num;.rw[T c xa]at h;rw[T j R]at k;exact e.hr.EH c j E G h k H x J
    grind
   .by_cases R:j.num<y.next.num;.grind
    .have xa:y.next.num<=c.num:=by omega
     have R:y.next.num<=j.num:=by omega
     rw[Y c xa]at h;rw[Y j R]at k;exact b.EH c j E G h k P P J
  lt:=e.hr.lt
  Ez:=Aem b.Ez e.Ez
  FU:=λI M xu=>by
   rw[e.FU I (Aen M b.Ez) (λa d H x xb=> ?_),b.FU I M xu];have xh:g a≠O:=by rw[<-V a (U a x)];omega
   obtain⟨_⟩:=b.Gf a d H xh (by omega);grind
  Gf:=λa d H x M=>by
   by_cases f:a.num<y.next.num
   .rw[T a f]at x;obtain⟨c,E,W,N,xj⟩:=e.Gf a d H x (Aen M b.Ez);have X:g c≠O:=by rw[<-V c (U c N)];omega
    obtain⟨_⟩:=b.Gf c E W X (by omega);grind
   .have f:y.next.num<=a.num:=by omega
    rw[Y a f]at x;exact b.Gf a d P x M
  Hb:=λQ I xd xv M=>by
   rcases e.Hb Q I xd xv (Aen M b.Ez)with⟨xl,xk,xg⟩|⟨c,E,W,N,xj⟩;.exact b.Hb xl I xk xg M
   .have X:g c≠O:=by rw[<-V c (U c N)];omega
    obtain⟨_⟩:=b.Gf c E W X (by omega);grind
  HA:=λa xf xn=>by
   have xy:=e.up;have f:u a=O:=by
    cases xc:u a with
    |none=>rfl
    |some d=>have:=b.F8 a xn (by grind);omega
   rw[T a (by omega),e.HA a (by omega) f,V a (by omega),b.HA a xf xn]
  AD:=b.AD.AI e.AD}
theorem JM.alloc(b:JM z v s u g q w){c:T}{Y:BV}{k:Fe}{xh:Obj}(R:u c=O)(xd:g c=A Y)(xj:v.next.num<=c.num)(xk:c.num<q)(xn:p.heap=w.heap.push xh)(xl:k.r=w.heap.z)(xg:BR (u.BW c k) Y k p)(xf:JH w p):JM z v s (u.BW c k) g q p:=by
 have Q:∀e,e<w.heap.z->p.heap[e]? =w.heap[e]? :=P;have xi:∀a d,a≠c->u.BW c k a=A d->u a=A d:=λa d xb N=>by rwa[AT.CE _ _ xb]at N
 have xm:p.heap.z=w.heap.z+1:=by grind
 exact{
  ext:=b.ext.AI (AT.KE k R)
  F8:=λa j f=>by
   by_cases h:a=c;.grind
   .rw[AT.CE _ _ h]at f;exact b.F8 a j f
  EJ:=λG e F x=>(b.EJ G e F x).Ar (AT.KE k R).Fv (Q e (b.EJ G e F x).lt)
  Fg:=λa S d G e F j xe f x=>by
   by_cases h:a=c;.subst h;rw[AT.HC]at f;cases f;have:=(b.EJ G e F x).lt;omega
   .exact b.Fg a S d G e F j xe P x
  Ca:=λa S d j f=>by
   by_cases h:a=c;.subst h;rw[xd]at j;cases j;rw[AT.HC]at f;cases f;exact xg
   .have X:=xi a d h f;exact(b.Ca a S d j X).Ar (AT.KE k R) (Q _ (b.lt a d X))
  EH:=λM H U V j f E J xa=>by
   by_cases Z:M=c
   .by_cases W:H=c;.grind
    .exfalso;subst Z;rw[AT.HC]at E;cases E;have:=b.lt H V P;omega
   .by_cases W:H=c;.exfalso;subst W;rw[AT.HC]at J;cases J;have:=b.lt M U P;omega
    .exact b.EH M H U V j f P P xa
  lt:=λa d N=>by
   by_cases h:a=c;.subst h;rw[AT.HC]at N;grind
   .have:=b.lt a d P;omega
  Ez:=by have:=b.Ez;omega
  FU:=λe I xc=>by rw[Q e (Aen I b.Ez),b.FU e I xc]
  Gf:=λa d E J I=>by
   by_cases h:a=c;.subst h;rw[AT.HC]at E;cases E;have:=b.Ez;omega
   .exact b.Gf a d P J I
  Hb:=b.Hb
  HA:=b.HA
  AD:=b.AD.AI xf}
theorem JM.ON(d:HR z v s)(h:∀a,a.num<v.next.num->g a=v.M a)(xa:∀a,v.next.num<=a.num->a.num<q->z a=O)(xb:∀a,q<=a.num->g a=O){x:By}(S:x.heap=s.heap)(R:JH s x):JM z v s z g q x:={
 ext:=.refl _
 F8:=λa b e=>P
 EJ:=λY f j U=>(d.EJ Y f j U).Ar (.refl _) (by grind)
 Fg:=λa k c X f j b Q e T=>by rw[h a P]at b;exact d.Fg a k c X f j b Q e T
 Ca:=λa k c b e=>by rw[h a P]at b;exact(d.Ca a k c b e).Ar (.refl _) (by grind)
 EH:=λE F I J G H V W M=>by rw[h E P]at G;rw[h F P]at H;exact d.EH E F I J G H V W M
 lt:=λa c N=>by rw[S];exact d.lt a c N
 Ez:=by grind
 FU:=λf _ _=>by grind
 Gf:=λa c b e _=>⟨a,c,b,by grind,B⟩
 Hb:=λk f j xc _=>P
 HA:=λa Z _=>P
 AD:=R}
theorem JM.Sp(b:JM z v s u g q w)(f:NO r)(j:v.next.num<=r.next.num)(k:q=r.next.num)(e:∀a,a.num<r.next.num->r.M a=g a):Fin z v s u r w where
 ext:=b.ext
 F8 a c d:=by have:=b.F8 a c d;omega
 hr:=b.hr f e
 up:=j
 Ez:=b.Ez
 FU:=b.FU
 Gf a h c d:=b.Gf a h c (by rw[<-e a (f a d)];omega)
 Hb:=b.Hb
 HA a c d:=by rw[e a (by omega),b.HA a c d]
 AD:=b.AD
end
section
variable(t:D->G)
def TI(b:T):D->D->Ae BV
 |0,a=>if b.num<(t a).next.num then(t a).M b else O
 |c+1,a=>if b.num<(t a).next.num then(t a).M b else TI b c (a+1)
def Il(m a:D)(b:T):Ae BV:=TI t b (m-a) a
variable{t} {m:D}
theorem PB{a:D}{b:T}(d:b.num<(t a).next.num):Il t m a b=(t a).M b:=by
 unfold Il
 cases m-a with
 |zero=>unfold TI;grind
 |succ c=>unfold TI;grind
theorem bc{a:D}{b:T}(d:a<m)(c:(t a).next.num<=b.num):Il t m a b=Il t m (a+1) b:=by
 unfold Il;rw[show m-a=(m-(a+1))+1 by omega];conv=>lhs;unfold TI
 grind
theorem ue{a:T}(b:(t m).next.num<=a.num):Il t m m a=O:=by unfold Il;rw[Afc];unfold TI;grind
variable(o:∀i,i<m->(t i).next.num<=(t (i+1)).next.num)
theorem J7(o:∀i,i<m->(t i).next.num<=(t (i+1)).next.num){i:D}:∀{a:D},i<=a->a<=m->(t i).next.num<=(t a).next.num
 |a,b,c=>by
  induction a with
  |zero=>grind
  |succ a d=>grind
theorem h4(o:∀i,i<m->(t i).next.num<=(t (i+1)).next.num){a:D}{b:T}:∀{i:D},a<=i->i<=m->(∀c,c<i->a<=c->(t c).next.num<=b.num)->Il t m a b=Il t m i b
 |i,f,h,j=>by
  induction i with
  |zero=>grind
  |succ i d=>
   by_cases e:a=i+1;.grind
   .rw[d (by omega) (by omega) P,bc (by omega) P]
def OU(a b:G):Prop:=b=a\/∃c,b=a.V c
theorem OU.M{a c:G}(d:OU a c){b:T}(e:b.num<a.next.num):c.M b=a.M b:=by
 rcases d with rfl|⟨f,rfl⟩;.rfl
 .exact G.LA _ _ P
theorem OU.E8{a b:G}(f:OU a b)(h:NO a):NO b:=by
 rcases f with rfl|⟨j,rfl⟩;.omega
 .intro c d;rw[G.Gh,T.Fb];by_cases e:c=a.next;.grind
  .rw[G.LA _ _ e]at d;have:=h c d;omega
theorem ud(o:∀i,i<m->(t i).next.num<=(t (i+1)).next.num){a:D}(d:a<m)(e:OU (t a) (t (a+1)))(b:T):Il t m a b=Il t m (a+1) b:=by
 by_cases c:b.num<(t a).next.num;.have:=o a d;rw[PB c,PB (by omega),e.M c]
 .exact bc d (by omega)
theorem uf(o:∀i,i<m->(t i).next.num<=(t (i+1)).next.num){c:D}:∀{a:D},c<=a->a<=m->(∀i,c<=i->i<a->OU (t i) (t (i+1)))->NO (t c)->NO (t a)/\∀b,Il t m c b=Il t m a b
 |a,k,x,d,E=>by
  induction a with
  |zero=>grind
  |succ a e=>
   by_cases j:c=a+1;.grind
   .obtain⟨f,h⟩:=e (by omega) (by omega) P;exact⟨(d a (by omega) (by omega)).E8 f,λb=>(h b).t (ud o (by omega) P b)⟩
end
def T.N3:∀c {a:T},T.eq c a=L->c=a
 | .h,a,b=>by cases a<;>first|rfl|(cases b;done)
 | .o c,a,b=>by
  cases a with
  |h=>cases b
  |i _=>cases b
  |o a=>rw[T.N3 c b]
 | .i c,a,b=>by
  cases a with
  |h=>cases b
  |o _=>cases b
  |i a=>rw[T.N3 c b]
mutual
def YV:∀c {b:F},FD c b=L->c=b
 | .b c,b,a=>by cases b<;>simp_all[FD]
 | .i h c,b,a=>by
  cases b<;>simp[FD,Oi,Kz]at a
  grind
 | .s c,b,a=>by
  cases b<;>simp[FD,MY]at a
  grind
 | .p d e,b,a=>by
  cases b<;>simp only[FD,AdO,AdZ]at a
  rw[T.N3 _ a.1,AdQ a.2]
 | .pn,b,a=>by cases b<;>simp_all[FD]
 | .Z d e i j k,b,a=>by
  cases b<;>simp only[FD,AdO,AdZ]at a
  rw[T.N3 _ a.1.1.1.1,AdQ a.1.1.1.2,AdQ a.1.1.2,AdQ a.1.2,AdQ a.2]
 | .sn,b,a=>by cases b<;>simp_all[FD]
 | .m c,b,a=>by
  cases b<;>simp only[FD,AdZ]at a
  rw[T.N3 _ a]
 | .mn,b,a=>by cases b<;>simp_all[FD]
 | .f d e,b,a=>by
  cases b<;>simp only[FD,AdO,AdZ]at a
  rw[T.N3 _ a.1,NX _ a.2]
 | .fn,b,a=>by cases b<;>simp_all[FD]
 | .S c,b,a=>by
  cases b<;>simp only[FD,AdZ]at a
  rw[NX _ a]
 | .AB c,b,a=>by
  cases b<;>simp only[FD,AdZ]at a
  rw[NX _ a]
 | .ic d e,b,a=>by
  cases b<;>simp only[FD,AdO,AdZ]at a
  rw[AdQ a.1,YV _ a.2]
 | .KZ,b,a=>by cases b<;>simp_all[FD]
 | .pi c,b,a=>by
  cases b<;>simp only[FD,AdZ]at a
  rw[NX _ a]
 | .CV c,b,a=>by
  cases b<;>simp only[FD,AdZ]at a
  rw[dG _ a]
 | .mi d e,b,a=>by
  cases b<;>simp only[FD,AdO,AdZ]at a
  rw[NX _ a.1,NX _ a.2]
def NX:∀c {b:C F},JP c b=L->c=b
 |[],b,a=>by cases b<;>simp_all[JP]
 |f::c,b,a=>by
  cases b with
  |nil=>simp[JP]at a
  |cons g b=>simp only[JP,AdO]at a;rw[YV f a.1,NX c a.2]
def dG:∀c {b:C (C F)},O3 c b=L->c=b
 |[],b,a=>by cases b<;>simp_all[O3]
 |f::c,b,a=>by
  cases b with
  |nil=>simp[O3]at a
  |cons g b=>simp only[O3,AdO]at a;rw[NX f a.1,dG c a.2]
end
def dH{d e:F}(a:Qb d e=L):d=e:=by
 unfold Qb at a;split at a;.obtain⟨b,c⟩:=FR a;rw[(Oi _ _).1 b];rw[Kz]at c;grind
 .obtain⟨b,c⟩:=FR a;rw[AdQ b,T.N3 _ c]
 .obtain⟨b,a⟩:=FR a;obtain⟨c,a⟩:=FR a;obtain⟨f,a⟩:=FR a;obtain⟨g,a⟩:=FR a;rw[AdQ b,AdQ c,AdQ f,AdQ g,T.N3 _ a]
 .rw[T.N3 _ a]
 .rw[MY]at a;grind
 .rfl
 .rfl
 .grind
 .exact YV _ a
def YW:∀{c a:C F},Uc c a=L->c=a
 |[],a,b=>by cases a<;>first|rfl|(cases b;done)
 |f::c,a,b=>by
  cases a with
  |nil=>cases b
  |cons g a=>obtain⟨d,e⟩:=FR b;rw[dH d,YW e]
def lH{b c:F}(a:Ud b c=L):b=c:=by
 unfold Ud at a;split at a;.rw[YW a]
 .rw[YW a]
 .exact dH a
def jH{c:Rd}{e:C F}{b:G}{d:F}(a:Bv c e b d=L):c.ev e b=A d:=by
 unfold Bv at a;split at a;.rename_i g f;rw[f,lH a]
 grind
def jK{d:D}{f:G}:∀{c:C Ev},C0 d f c=L->∀a∈c,Nat.testBit d a.JB=Aa->a.r.ev a.xs f=A a.v
 |[],_,a,b,_=>by grind
 |j::c,h,a,b,g=>by
  obtain⟨e,i⟩:=FR h;rcases Ad6.1 b with rfl|b;.rw[g]at e;exact jH e
  .exact jK i a b g
def jL{d:D}{g:Rd}{j:C F}{i:F}:∀{c:C (D×G)},DU d g j i c=L->∀a∈c,Nat.testBit d a.1=Aa->g.ev j a.2=A i
 |[],_,h,b,_=>by grind
 |l::c,a,h,b,f=>by
  obtain⟨e,k⟩:=FR a;rcases Ad6.1 b with rfl|b;.rw[f]at e;exact jH e
  .exact jL k h b f
def Me{a:Type}(d:a)(b:D->a):D->a
 |0=>d
 |c+1=>b c
structure Wc(q:Bd)(d:C Cx)(o:D)(n:Kj)(k:D->Fm)(j:D->G)(l:D->F)(h:D->Ah):Prop where
 TU:∀a e,d[a]? =A e->h a=G5 e.DZ (k a)
 FU:∀a e,d[a]? =A e->k (a+1)=DI (k a) e.De (l a)
 Sk:∀a e,d[a]? =A e->h a=L->D8 q e.op (k a) (j a)=A (l a,j (a+1))
 Fk:∀a e,d[a]? =A e->h a=Aa->l a=AC/\j (a+1)=j a
 before:∀b a f g c i,b<a->d[b]? =A f->d[a]? =A g->h b=L->h a=L->Ht f.op=L->g.op=.rd c i->Hc c=L->Nat.testBit g.bits (o+b)=Aa->c.ev (AU (k a) i) (j b)=A (l a)
 YE:∀a b f g c i,a<b->d[b]? =A f->d[a]? =A g->h b=L->h a=L->Ht f.op=L->g.op=.rd c i->Hc c=L->Nat.testBit f.bits (o+a)=Aa->c.ev (AU (k a) i) (j (b+1))=A (l a)
 Jv:∀m∈n.Jv,∀b f,d[b]? =A f->h b=L->Ht f.op=L->Nat.testBit f.bits m.JB=Aa->m.r.ev m.xs (j (b+1))=A m.v
 BO:∀p∈n.BO,∀a g c i,d[a]? =A g->h a=L->g.op=.rd c i->Hc c=L->Nat.testBit g.bits p.1=Aa->c.ev (AU (k a) i) p.2=A (l a)
def ka{J:Bd}{g:Cx}{R:C Cx}{H:D}{x y:Kj}{w:Fm}{z E:G}{v:F}{i:Ah}{N:D->Fm}{I:D->G}{T:D->F}{S:D->Ah}(f:Wc J R (H+1) y N I T S)(U:N 0=DI w g.De v)(M:I 0=E)(xc:i=G5 g.DZ w)(X:i=L->D8 J g.op w z=A (v,E))(Q:i=Aa->v=AC/\E=z)(W:i=L->Ht g.op=L->(H,z)∈y.BO)(V:i=L->∀c d,g.op=.rd c d->Hc c=L->⟨H,c,AU w d,v⟩∈y.Jv)(xf:∀h∈x.Jv,h∈y.Jv)(Y:i=L->Ht g.op=L->∀h∈x.Jv,Nat.testBit g.bits h.JB=Aa->h.r.ev h.xs E=A h.v)(xg:∀q∈x.BO,q∈y.BO)(Z:i=L->∀c d,g.op=.rd c d->Hc c=L->∀q∈x.BO,Nat.testBit g.bits q.1=Aa->c.ev (AU w d) q.2=A v):Wc J (g::R) H x (Me w N) (Me z I) (Me v T) (Me i S)where
 TU a p b:=by
  cases a with
  |zero=>simp at b;subst b;exact xc
  |succ a=>exact f.TU a p (by grind)
 FU a p b:=by
  cases a with
  |zero=>simp at b;subst b;exact U
  |succ a=>exact f.FU a p (by grind)
 Sk a p b s:=by
  cases a with
  |zero=>simp at b;subst b;exact(X s).t (by rw[<-M];rfl)
  |succ a=>exact f.Sk a p (by grind) s
 Fk a p b s:=by
  cases a with
  |zero=>exact⟨(Q s).1,M.t (Q s).2⟩
  |succ a=>exact f.Fk a p (by grind) s
 before e a t u c d xd r b k l j m n o:=by
  cases a with
  |zero=>omega
  |succ a=>
   cases e with
   |zero=>simp at r;subst r;exact f.BO _ (W k j) a u c d (by grind) l m n (by omega)
   |succ e=>exact f.before e a t u c d (by omega) (by grind) (by grind) k l j m n (by grind)
 YE a e t u c d xe r b k l j m n o:=by
  cases e with
  |zero=>omega
  |succ e=>
   cases a with
   |zero=>simp at b;subst b;exact f.Jv _ (V l c d m n) e t (by grind) k j (by omega)
   |succ a=>exact f.YE a e t u c d (by omega) (by grind) (by grind) k l j m n (by grind)
 Jv h xb e t r k j o:=by
  cases e with
  |zero=>simp at r;subst r;have:=Y k j h xb o;rw[<-M]at this;exact this
  |succ e=>exact f.Jv h P e t (by grind) k j o
 BO q xa a u c d b l m n o:=by
  cases a with
  |zero=>simp at b;subst b;exact Z l c d m n q xa o
  |succ a=>exact f.BO q P a u c d (by grind) l m n o
def cE{s:Bd}:∀h e a b d,E6 s h e a b d≠.Cd->∃(k:D->Fm)(i:D->G)(r:D->F)(o:D->Ah),k 0=b/\i 0=d/\E6 s h e a b d=.CC (k h.l) (i h.l)/\Wc s h e a k i r o
 |[],e,a,b,d,c=>⟨λ_=>b,λ_=>d,λ_=>AC,λ_=>Aa,B,B,B,by constructor<;>simp⟩
 |g::h,e,a,b,d,c=>by
  rw[Lu]at c⊢
  cases I:G5 g.DZ b with
  |false=>rw[I]at c;obtain⟨k,i,r,o,v,w,x,t⟩:=cE h (e+1) a _ _ c;refine⟨Me b k,Me d i,Me AC r,Me Aa o,B,B,x,?_⟩;exact ka t v w P P P P P P P P P
  |true=>
   rw[I]at c
   cases J:D8 s g.op b d with
   |none=>rw[J]at c;exact BF B c
   |some p=>
    obtain⟨q,E⟩:=p
    rw[J]at c
    unfold HG at c⊢
    simp only[]at c⊢
    cases f:I4 e g.bits g.op b d q E a with
    |none=>grind
    |some l=>
     rw[f]at c;obtain⟨k,i,r,o,v,w,x,t⟩:=cE h (e+1) l _ _ c;refine⟨Me b k,Me d i,Me q r,Me L o,B,B,x,?_⟩;have R:Ht g.op=L->C0 g.bits E a.Jv=L/\l=⟨a.Jv,(e,d)::a.BO⟩:=λn=>by
      unfold I4 at f;split at f;.rename_i u;rw[u]at n;cases n
      .rename_i u;rw[u]at n;cases n
      grind
     have T:∀j m,g.op=.rd j m->Hc j=L->DU g.bits j (AU b m) q a.BO=L/\l=⟨⟨e,j,AU b m,q⟩::a.Jv,a.BO⟩:=λj m H N=>by rw[H]at f;have f:N0 e g.bits j (AU b m) q a=A l:=f;unfold N0 at f;grind
     have S:(∀z∈a.Jv,z∈l.Jv)/\(∀p∈a.BO,p∈l.BO):=by
      unfold I4 at f;split at f;.unfold N0 at f;grind
      .grind
      grind
     exact ka t v w P P P P P
      P (λ_ n z Q y=>jK P z Q y) P (λ_ j m H N p M y=>jL P p M y)
theorem Fm.O1(f:Fm)(d:Ae T)(e:F)(b:T):Fm.at (DI f d e) b=if d=A b then e else Fm.at f b:=by
 cases d with
 |none=>rfl
 |some h=>
  by_cases g:h=b;.subst g;rw[Af B];exact Fm.Ua _ _ _
  .rw[Ad P];exact Fm.R8 _ _ P
def Ls(l:C Cx)(b:D):Ae T:=(l[b]?).b (·.De)
def Hs(l:C Cx)(d:Fm)(v:D->F)(t:D->Ah):D->Fm
 |0=>d
 |b+1=>if t b=L then DI (Hs l d v t b) (Ls l b) (v b)else Hs l d v t b
section
variable{l:C Cx} {y:D->Fm} {v:D->F} {t k:D->Ah}
theorem fv{e:D}{f:T}:∀{b:D},e<=b->(∀d,e<=d->d<b->t d=L->Ls l d≠A f)->Fm.at (Hs l (y 0) v t b) f=Fm.at (Hs l (y 0) v t e) f
 |b,E,h=>by
  induction b with
  |zero=>grind
  |succ b j=>
   by_cases g:e=b+1;.subst g;rfl
   .conv=>lhs;unfold Hs
    by_cases i:t b=L;.rw[Af i,Fm.O1,Ad P,(j (by omega) (λd a x=>h d a (by omega)))]
    grind
theorem Z1(f:∀b,b<l.l->y (b+1)=DI (y b) (Ls l b) (v b)){e:T}:∀{b:D},b<=l.l->(∀d,d<b->Ls l d=A e->t d=L)->Fm.at (Hs l (y 0) v t b) e=Fm.at (y b) e
 |0,_,_=>rfl
 |b+1,x,g=>by
  have j:=Z1 f (b:=b) (by omega) (λd a=>g d (by omega));rw[f b (by omega),Fm.O1];conv=>lhs;unfold Hs
  by_cases h:t b=L;.rw[Af h,Fm.O1,j]
  grind
theorem fu{g:D}{d:T}(j:∀h,h≠g->k h=t h)(E:Ls l g≠A d):∀b,Fm.at (Hs l (y 0) v k b) d=Fm.at (Hs l (y 0) v t b) d
 |0=>rfl
 |b+1=>by
  have F:=fu j E b;unfold Hs;by_cases i:b=g
  .subst i;have:∀f e,Fm.at (if f=L then DI e (Ls l b) (v b)else e) d=Fm.at e d:=λf e=>by
    cases f
    .rfl
    .rw[Af B,Fm.O1,Ad E]
   rw[this,this,F]
  .rw[j b i];by_cases x:t b=L;.rw[Af x,Af x,Fm.O1,Fm.O1,F]
   grind
end
structure Ll(p:Program)(o:Bd)(r:D)(s:Bg Oper)(l:C Cx)(y:D->Fm)(u:D->G)(v:D->F)(z:D->Ah):Prop where
 gH:Jm p o
 gJ:Iv o
 gI:r<=100000
 A7:l.l=s.z
 T:Wc o l 0 ⟨[],[]⟩ y u v z
 Vw:∀f j h i,f<j->l[f]? =A h->l[j]? =A i->Nx f h i=L
 da:∀d b,s[d]? =A b->T3 d b=L
 Uo:∀d b,s[d]? =A b->∃e,l[d]? =A e/\SD s b.guard=A e.DZ/\e.De=b.dst.map pos/\(∀g,b.dst=A g->g<r)/\e.op=(DS p b).g .CS/\e.bits=(Region.before s).getD d 0
structure Inv(r:D)(s:Bg Oper)(l:C Cx)(y:D->Fm)(u:D->G)(v:D->F)(z:D->Ah)(m:AT)(n:By)(t:D->Ah)(c:D)(q:AT)(a:Act)(w:By):Prop where
 BT:∀b d,t b=L->((Region.before s).getD b 0).testBit d=L->t d=L
 tr:TR q (Hs l (y 0) v t l.l) a
 Qa:r<=a.tmps.z
 R2:a.defers=[]
 cm:c<=l.l
 c1:∀b e,b<c->l[b]? =A e->z b=L->Ht e.op=L->t b=L
 c2:∀b e,c<=b->l[b]? =A e->z b=L->Ht e.op=L->t b=Aa
 c3:c=0\/∃g e,c=g+1/\l[g]? =A e/\z g=L/\Ht e.op=L/\t g=L
 E8:NO (u c)
 Pd:∀b,b<l.l->t b=Aa->KS q (u b) (u (b+1))
 Tx:∀d,d<c->t d=Aa->∀f:T,(u d).next.num<=f.num->f.num<(u (d+1)).next.num->(u c).M f=(u (d+1)).M f
 Am:JM m (u 0) n q (Il u l.l c) (u l.l).next.num w
section
variable{p:Program} {o:Bd} {r:D} {s:Bg Oper} {l:C Cx} {y:D->Fm} {u:D->G} {v:D->F} {z:D->Ah}
variable{m:AT} {n:By} {t:D->Ah} {c:D} {q:AT} {a:Act} {w:By}
theorem Ll.Ar(d:Ll p o r s l y u v z):∀b,b<l.l->(u b).next.num<=(u (b+1)).next.num:=λb g=>by
 have f:=AeD g
 cases e:z b with
 |true=>exact ZL d.gJ (d.T.Sk b _ f e)
 |false=>rw[(d.T.Fk b _ f e).2];omega
theorem Ll.Y_(j:Ll p o r s l y u v z){d:D}{g:Cx}(x:l[d]? =A g)(G:z d=Aa\/Ht g.op=Aa):OU (u d) (u (d+1)):=by
 cases E:z d with
 |false=>exact .i (j.T.Fk d _ x E).2
 |true=>
  have e:Ht g.op=Aa:=by grind
  have b:=j.T.Sk d _ x E
  cases f:g.op with
  |rd h i=>
   rw[f]at b;have b:HL h (AU (y d) i) (u d)=_:=b;unfold HL at b;split at b;.injection b with b;injection b with _ b;exact .i P
   grind
  |al h i=>
   rw[f]at b;have b:DT h (AU (y d) i) (u d)=_:=b;unfold DT at b;split at b;.rename_i F H _;injection b with b;injection b with _ b;exact .j ⟨F,P⟩
   grind
  |ef _ _=>rw[f]at e;cases e
  |call _ _=>rw[f]at e;cases e
  |CS=>rw[f]at e;cases e
theorem Inv.Y_(f:Ll p o r s l y u v z)(g:Inv r s l y u v z m n t c q a w){d:D}(j:d<=l.l)(x:∀b e,c<=b->b<d->l[b]? =A e->z b=L->Ht e.op=L->False):∀b,c<=b->b<d->OU (u b) (u (b+1)):=λb h i=>by refine f.Y_ (P:l[b]? =A l[b]) ?_;grind
theorem Inv.TV(g:Ll p o r s l y u v z)(f:Inv r s l y u v z m n t c q a w){d:D}(F:c<=d)(h:d<=l.l)(H:∀e E,c<=e->e<d->l[e]? =A E->z e=L->Ht E.op=L->False):NO (u d)/\(∀b,Il u l.l c b=Il u l.l d b)/\(∀b,b.num<(u d).next.num->(u d).M b=Il u l.l c b)/\HR q (u d) w:=by
 obtain⟨i,j⟩:=uf g.Ar F h (f.Y_ g h H) f.E8;have x:∀b,b.num<(u d).next.num->(u d).M b=Il u l.l c b:=λb G=>by rw[j b,PB G]
 exact⟨i,j,x,f.Am.hr i x⟩
theorem Inv.wV(j:Ll p o r s l y u v z)(P:Inv r s l y u v z m n t c q a w){f:D}{E:Cx}(x:l[f]? =A E)(S:t f=Aa)(W:∀b,Nat.testBit E.bits b=L->t b=L)(V:∀b H,l[b]? =A H->t b=L->Nat.testBit H.bits f=Aa){h:T}(G:h∈XF E):Fm.at (Hs l (y 0) v t l.l) h=Fm.at (y f) h:=by
 have X:=(AdN.1 x).1;rw[fv (e:=f) (by omega),Z1 (λN M=>by have F:=AeD M;rw[j.T.FU N _ F];unfold Ls;rw[F];rfl) (by omega)]
 .intro b J d;have g:l[b]? =A l[b]:=AeD (by omega);unfold Ls at d;rw[g]at d;have d:l[b].De=A h:=d;have:=j.Vw b f _ _ J g x;unfold Nx at this;rw[AeS]at this;rcases this with e|e;.grind
  .rw[d]at e;simp only[]at e;rw[ay.2 G]at e;grind
 .intro b R I U d;by_cases Q:b=f;.grind
  .have g:=AeD I;unfold Ls at d;rw[g]at d;have d:l[b].De=A h:=d;have:=j.Vw f b _ _ (by omega) x g;unfold Nx at this;rw[AeS]at this;rcases this with e|e;.grind
   .rw[d]at e;simp only[]at e;rw[ay.2 G]at e;grind
def add(t:D->Ah)(d:D):D->Ah:=λb=>t b||b==d
theorem NR(t:D->Ah)(b:D):add t b b=L:=by simp[add]
theorem L_(t:D->Ah){d b:D}(e:b≠d):add t d b=t b:=by simp[add,e]
theorem c_(i:Inv r s l y u v z m n t c q a w){e:D}(j:∀b,((Region.before s).getD e 0).testBit b=L->t b=L):∀d b,add t e d=L->((Region.before s).getD d 0).testBit b=L->add t e b=L:=λd b h g=>by
 by_cases f:d=e;.subst f;simp[add,(j b g)]
 .rw[L_ t f]at h;simp[add,(i.BT d b h g)]
theorem Inv.AJ(G:Ll p o r s l y u v z)(e:Inv r s l y u v z m n t c q a w){b:D}{d:Oper}{h:Cx}(M:l[b]? =A h)(X:t b=Aa)(R:h.De=d.dst.map pos)(Q:∀f,d.dst=A f->f<r)(Y:∀g d,l[g]? =A d->t g=L->Nat.testBit d.bits b=Aa){F:AT}(N:q.le F){j:Ba}(W:VR F (v b) j):TR F (Hs l (y 0) v (add t b) l.l) (a.put d.dst j)/\r<=(a.put d.dst j).tmps.z/\(a.put d.dst j).defers=[]:=by
 have xa:=(AdN.1 M).1;have Z:Ls l b=h.De:=by unfold Ls;grind
 have U:TR F (DI (Hs l (y 0) v t l.l) h.De (v b)) (a.put d.dst j):=by
  rw[R]
  cases T:d.dst with
  |none=>exact e.tr.Ar N
  |some f=>have x:=Q f T;have I:=G.gI;exact(e.tr.Ar N).AJ (Aen x e.Qa) (Aen x (by omega)) W
 refine⟨λE V=> ?_,?_,?_⟩
 .have:=U E V;rw[Fm.O1]at this;by_cases H:h.De=A (pos E)
  .rw[Af H]at this;have x:Fm.at (Hs l (y 0) v (add t b) l.l) (pos E)=v b:=by
    rw[fv (e:=b+1) (by omega)];.unfold Hs;rw[Af (NR t b),Fm.O1,Af (by grind)]
    .intro g x P I J;rw[L_ t (by omega)]at I;have J:l[g].De=A (pos E):=by unfold Ls at J;grind
     have:=G.Vw b g _ _ (by omega) M (AeD P);unfold Nx at this;grind
   grind
  .rw[Ad H]at this;rw[fu (λg S=>L_ t S) (by grind)];omega
 .cases d.dst with
  |none=>exact e.Qa
  |some f=>simpa[Act.put]using e.Qa
 .cases d.dst with
  |none=>exact e.R2
  |some f=>simpa[Act.put]using e.R2
theorem Inv.Dj(P:Ll p o r s l y u v z)(e:Inv r s l y u v z m n t c q a w){d:D}{S:Cx}(X:l[d]? =A S)(xb:t d=Aa)(V:∀b,((Region.before s).getD d 0).testBit b=L->t b=L)(xc:z d=Aa\/Ht S.op=Aa){I:AT}{J:Act}{T:By}(N:TR I (Hs l (y 0) v (add t d) l.l) J/\r<=J.tmps.z/\J.defers=[])(W:∀f,q f=O->I f≠O->(u d).next.num<=f.num/\f.num<(u (d+1)).next.num)(Y:JM m (u 0) n I (Il u l.l c) (u l.l).next.num T):Inv r s l y u v z m n (add t d) c I J T where
 BT:=c_ e V
 tr:=N.1
 Qa:=N.2.1
 R2:=N.2.2
 cm:=e.cm
 c1 b H h x F G:=by simp[add,(e.c1 b H h x F G)]
 c2 b H h x F G:=by
  by_cases g:b=d;.grind
  .rw[L_ t g];exact e.c2 b H h x F G
 c3:=by
  rcases e.c3 with Q|⟨g,H,h,x,F,G,U⟩;.omega
  .exact .j ⟨g,H,h,x,F,G,by simp[add,U]⟩
 E8:=e.E8
 Pd b M E f h x:=by
  have R:b≠d:=λg=>by subst g;rw[NR]at E;grind
  rw[L_ t R]at E
  cases Z:I f with
  |none=>rfl
  |some xa=>
   have F:=W f (e.Pd b M E f h x) (by simp[Z]);have xd:=(AdN.1 X).1;rcases Nat.lt_or_gt_of_ne R with Q|Q;.have:=J7 P.Ar (i:=b+1) (a:=d) (by omega) (by omega);omega
   .have:=J7 P.Ar (i:=d+1) (a:=b) (by omega) (by omega);omega
 Tx b M E:=by rw[L_ t (λg=>by subst g;rw[NR]at E;grind:b≠d)]at E;exact e.Tx b M E
 Am:=Y
theorem Inv.wH(g:Ll p o r s l y u v z)(e:Inv r s l y u v z m n t c q a w){b:D}{xk:Oper}(xG:s[b]? =A xk)(V:t b=Aa)(ya:∀f∈xk.after.l,Region.binds .any f=L->t f.on=L){xC:Act->By->Prop}{xL:Exit->Act->By->Prop}(xu:∀x1 xB xM xl,Inv r s l y u v z m n (add t b) x1 xB xM xl->xC xM xl):wpOp p s xL b xC a w:=by
 obtain⟨Q,I,x4,xs,xt,xO,xP⟩:=g.Uo b xk xG
 have xp:=(AdN.1 I).1
 have xi:∀d,((Region.before s).getD b 0).testBit d=L->t d=L:=λd xg=>by
  obtain⟨f,E,h,F⟩:=lF xG xg;rcases F with F|F;.grind
  .exact e.BT _ _ (ya f E h) F
 have xc:∀d xy,l[d]? =A xy->t d=L->Nat.testBit xy.bits b=Aa:=λd xy xg X=>by
  have ys:=(AdN.1 xg).1
  obtain⟨yw,xW,_,_,_,_,yk⟩:=g.Uo d (s[d]'(by have:=g.A7;omega)) P
  rw[xg]at xW;cases xW
  cases x:Nat.testBit xy.bits b with
  |false=>rfl
  |true=>rw[yk]at x;have:=e.BT d b X x;grind
 have xI:=λ{xz:T}(xh:xz∈XF Q)=>e.wV g I V P xc xh
 unfold wpOp
 rw[xG]
 simp only[]
 rw[kB e.tr x4,Aa2 (λxz xh=>xI (Ae0 _ xh)),<-g.T.TU b Q I]
 cases xj:z b with
 |false=>refine xu c q _ w (e.Dj g I V xi P (e.AJ g I V xs xt xc (.refl _) (by rw[(g.T.Fk b Q I xj).1];exact RP q)) P e.Am)
 |true=>
  refine .i ?_
  have J:=g.T.Sk b Q I xj
  have xn:DS p xk=A Q.op:=by
   cases x7:DS p xk with
   |none=>rw[x7]at xO;rw[xO]at J;cases J
   |some x=>grind
  have xD:∀U,D8 o Q.op (Hs l (y 0) v t l.l) U=D8 o Q.op (y b) U:=λU=>n1 λxz xh=>xI (AeT _ xh)
  have xN:Ht Q.op=L->xk.wp p a w xC xL:=λxE=>by
   have xv:c<=b:=by
    rcases Nat.lt_or_ge b c with H|H;.have:=e.c1 b Q H I xj xE;grind
    omega
   have x9:∀d xe,c<=d->d<b->l[d]? =A xe->z d=L->Ht xe.op=L->False:=λd xe E h F S N=>by
    have xa:=e.c2 d xe E F S N;have:=g.Vw d b xe Q h F I;unfold Nx at this;rw[N,xE,AeS]at this;rcases this with H|H;.rw[xP]at H;rw[xi d H]at xa;cases xa
    .simp at H
   obtain⟨xK,xX,xA,yl⟩:=e.TV g xv (by omega) x9;refine iz g.gH e.tr yl xn (by rw[xD];exact J) (e.Pd b xp V) λxY xl xB xq xd=> ?_;have xJ:=e.AJ g I V xs xt xc xd.ext xq;refine xu (b+1) xB _ xl {
    BT:=c_ e xi
    tr:=xJ.1
    Qa:=xJ.2.1
    R2:=xJ.2.2
    cm:=xp
    c1:=λd xe E h F S=>by
     by_cases f:d=b;.subst f;exact NR t d
     .by_cases x2:d<c;.simp[add,(e.c1 d xe x2 h F S)]
      grind
    c2:=λd xe E h F S=>by rw[L_ t (by omega)];exact e.c2 d xe (by omega) h F S
    c3:=.j ⟨b,Q,B,I,xj,xE,NR t b⟩
    E8:=xd.hr.E8
    Pd:=λd xg X M E h=>by
     have xw:d≠b:=λf=>by subst f;rw[NR]at X;grind
     rw[L_ t xw]at X
     cases x:xB M with
     |none=>rfl
     |some xr=>
      have F:=xd.F8 M (e.Pd d xg X M E h) (by simp[x]);rcases Nat.lt_or_gt_of_ne xw with H|H;.have:=J7 g.Ar (i:=d+1) (a:=b) (by omega) (by omega);omega
      .have:=J7 g.Ar (i:=b+1) (a:=d) (by omega) (by omega);omega
    Tx:=λd xg X M E h=>by
     have xw:d≠b:=λf=>by subst f;rw[NR]at X;cases X
     rw[L_ t xw]at X;have yu:=J7 g.Ar (i:=d+1) (a:=b) (by omega) (by omega);rw[xd.HA M (by omega) (e.Pd d (by omega) X M E h),xA M (by omega)];by_cases f:d<c;.have:=J7 g.Ar (i:=d+1) (by omega) e.cm;rw[PB (by omega),e.Tx d f X M E h]
     .obtain⟨_,_,ym,_⟩:=e.TV g (d:=d+1) (by omega) (by omega) P;rw[ym M h]
    Am:=e.Am.nz xK xA (J7 g.Ar (by omega) (by omega)) xd (λM xc=>PB xc) (λM xc=>by have:=g.Ar b xp;rw[xX M,bc xp (by omega)]) (J7 g.Ar (by omega) (by omega))}
  cases Y:Q.op with
  |CS=>rw[Y]at J;cases J
  |rd xf W=>
   rw[Y]at J xn;obtain⟨U,x5,x6⟩:∃U,HR q U w/\xf.ev (AU (y b) W) U=A (v b):=by
    have yc:HL xf (AU (y b) W) (u b)=A (v b,u (b+1)):=J
    have xo:xf.ev (AU (y b) W) (u b)=A (v b):=by unfold HL at yc;grind
    have xR:=(e.TV g Om e.cm Om).2.2.2
    cases xH:Hc xf with
    |false=>exact⟨u c,xR,by rw[v1 xH _ _ (u b)];exact xo⟩
    |true=>
     by_cases xv:b<c
     ·
      rcases e.c3 with H|⟨f,xb,E,h,F,S,N⟩;.omega
      .have yr:b≠f:=λH=>by subst H;rw[V]at N;cases N
       subst E;exact⟨_,xR,g.T.YE b f xb Q xf W (by omega) h I F xj S Y xH (by rw[Ad2];exact xc f xb h N)⟩
     ·
      have x3:∀R,c<=R->R<=b->(∀x Z,c<=x->x<R->l[x]? =A Z->z x=L->Ht Z.op=L->False)\/∃f xb,c<=f/\f<R/\l[f]? =A xb/\z f=L/\Ht xb.op=L/\(∀x Z,c<=x->x<f->l[x]? =A Z->z x=L->Ht Z.op=L->False):=by
       intro R
       induction R with
       |zero=>intro E h;exact .i λx Z F S=>by omega
       |succ R ye=>
        intro E h;by_cases yq:c=R+1;.exact .i λx Z F S=>by omega
        .rcases ye (by omega) (by omega)with H|⟨f,xb,xK,xX,xA⟩
         .have xV:l[R]? =A l[R]:=AeD (by omega)
          cases xT:z R with
          |false=>
           exact .i λx Z F S N xa xm=>by
            by_cases f:x=R;.subst f;rw[xT]at xa;cases xa
            .exact H x Z F (by omega) N xa xm
          |true=>
           cases xU:Ht l[R].op with
           |false=>
            exact .i λx Z F S N xa xm=>by
             by_cases f:x=R;.subst f;rw[xV]at N;cases N;rw[xU]at xm;cases xm
             .exact H x Z F (by omega) N xa xm
           |true=>exact .j ⟨R,_,by omega,by omega,xV,xT,xU,H⟩
         .exact .j ⟨f,xb,xK,by omega,xA⟩
      rcases x3 b (by omega) (CK _)with H|⟨f,xb,E,h,F,S,N,xa⟩;.exact⟨u b,(e.TV g (by omega) (by omega) H).2.2.2,xo⟩
      .have xQ:=e.c2 f xb E F S N
       refine⟨u f,(e.TV g E (by omega) xa).2.2.2,g.T.before f b xb Q xf W h F I S xj N Y xH ?_⟩
       rw[Ad2]
       cases x:Nat.testBit Q.bits f with
       |false=>rfl
       |true=>rw[xP]at x;rw[xi f x]at xQ;cases xQ
   have xx:D8 o (.rd xf W) (Hs l (y 0) v t l.l) U=A (v b,U):=by rw[Y]at xD;rw[xD];show HL xf (AU (y b) W) U=_;unfold HL;rw[x6]
   obtain⟨xY,xq,xd⟩:=i_ e.tr x5 xn (by
    have:HL xf (AU (Hs l (y 0) v t l.l) W) U=A (v b,U):=xx;unfold HL at this;split at this;.rename_i yn yb;rw[yb];injection this with this;injection this with E _;rw[E]
    .cases this)
   unfold Oper.wp;rw[xq];exact xu c q _ w (e.Dj g I V xi (.j (by rw[Y];rfl)) (e.AJ g I V xs xt xc (.refl _) xd) (λM E h=>BF E h) e.Am)
  |al x0 W=>
   rw[Y]at J xn;have J:DT x0 (AU (y b) W) (u b)=A (v b,u (b+1)):=J;unfold DT at J;split at J
   .rename_i xZ yn xo;injection J with J;injection J with yd xx;rw[yd]at xo;obtain⟨xY,xl,xr,yx,xq,xd,yf,yg,yh⟩:=dd e.tr xn (by rw[(Qn λxz xh=>xI (AeT _ (by rw[Y];exact xh)))];exact xo);have yv:(u (b+1)).next.num=(u b).next.num+1:=by rw[<-xx,G.Gh,T.Fb]
    have xF:=e.Pd b xp V _ (CK _) (by omega);have xS:(u (b+1)).M (u b).next=A xZ:=by rw[<-xx];exact G.Xf _ _
    have x8:Il u l.l c (u b).next=A xZ:=by
     by_cases xv:b<c;.have:=J7 g.Ar (i:=b+1) (by omega) e.cm;rw[PB (by omega),e.Tx b xv V _ (CK _) (by omega),xS]
     .rw[h4 g.Ar (i:=b+1) (by omega) (by omega) (λd E h=>J7 g.Ar (by omega) (by omega)),PB (by omega),xS]
    obtain⟨yi,yj⟩:=yh (q.BW (u b).next xr) (AT.KE xr xF) (AT.HC _ _ _);have yt:=J7 g.Ar (i:=b+1) (by omega) (CK _);unfold Oper.wp;rw[xq];refine xu c _ _ xl (e.Dj g I V xi (.j (by rw[Y];rfl)) (e.AJ g I V xs xt xc (AT.KE xr xF) yi) (λM E h=> ?_) (JM.alloc e.Am xF x8 (J7 g.Ar (by omega) (by omega)) (by omega) xd yg yj yf));by_cases f:M=(u b).next
    .subst f;exact⟨CK _,by omega⟩
    .rw[AT.CE _ _ f]at h;exact BF E h
   .cases J
  |ef yo W=>exact xN (by rw[Y];rfl)
  |call yp W=>exact xN (by rw[Y];rfl)
end
def Md(a:D->Ah):D->D
 |0=>0
 |b+1=>Md a b+if a b=L then 0 else 1
theorem ej{c d:D->Ah}:∀{b:D},(∀a,a<b->d a=c a)->Md d b=Md c b
 |0,_=>rfl
 |b+1,e=>by unfold Md;rw[ej λa f=>e a (by omega),e b (by omega)]
theorem ei{b:D->Ah}{c:D}(d:b c=Aa):∀{a:D},c<a->Md (add b c) a+1=Md b a
 |a+1,f=>by
  unfold Md;by_cases e:c=a;.subst e;rw[NR,d,ej λh g=>L_ b (by omega)];simp
  .rw[L_ b Om];have:=ei d (a:=a) (by omega);omega
theorem ek{c:D->Ah}:∀{b:D},Md c b=0->∀a,a<b->c a=L
 |b+1,d,a,f=>by
  unfold Md at d;by_cases e:a=b;.grind
  .exact ek (b:=b) (by omega) a (by omega)
section
variable{u:Program} {z:Bd} {v:D} {t:Bg Oper} {l:C Cx} {y:D->Fm} {w:D->G} {s:D->F} {r:D->Ah}
variable{p:AT} {q:By}
theorem ft:∀a,Hs l (y 0) s (λ_=>Aa) a=y 0
 |0=>rfl
 |a+1=>by unfold Hs;simp[ft a]
theorem cd{c:Bg Ah}{a:D}:a∈Region.ready .any t c↔a<t.z/\c.getD a L=Aa/\∃d,t[a]? =A d/\∀b∈d.after.l,Region.binds .any b=L->c.getD b.on Aa=L:=by
 unfold Region.ready;rw[List.mem_filter,AeU,AdO,Bool.not_eq_true'];refine and_congr_right λf=>and_congr_right λi=> ?_;rw[Afo f];simp only[Option.map_some,Aeg];constructor;.intro e;refine⟨_,B,λb h g=> ?_⟩;rw[Array.all_eq_true_iff_forall_mem]at e;grind
 grind
theorem YF(g:Ll u z v t l y w s r){e:Bg Ah}{f:D->Ah}(k:e.z=t.z)(i:∀a,e.getD a Aa=f a)(j:Region.ready .any t e=[]):∀c a,a<c->a<t.z->f a=L
 |c+1,a,E,d=>by
  by_cases b:a<c;.exact YF g k i j c a b d
  .cases F:f a with
   |true=>rfl
   |false=>
    exfalso;have:a∈Region.ready .any t e:=cd.2 ⟨d,by
     grind,t[a],Afo d,λb o n=>by
     have h:=g.da a _ (Afo d);unfold T3 at h;rw[Aei]at h;have m:=h b o;rw[n]at m;have x:b.on<a:=by
      have:Nat.blt b.on a=L:=by grind
      exact AdT this
     rw[i];exact YF g k i j c b.on (by omega) (by omega)⟩
    grind
theorem Aa7(g:Ll u z v t l y w s r):∀j {d:Bg Ah}{b:D->Ah}{i:D}{h:AT}{e:Act}{f:By},d.z=t.z->(∀a,d.getD a Aa=b a)->Md b t.z<=j->Inv v t l y w s r p q b i h e f->wpAny u .any t (KT v p (w 0) q (.CC (y l.l) (w l.l))) j d e f:=by
 have S:∀{d:Bg Ah}{b:D->Ah}{i:D}{h:AT}{e:Act}{f:By},d.z=t.z->(∀a,d.getD a Aa=b a)->(∀a,a<t.z->b a=L)->Inv v t l y w s r p q b i h e f->KT v p (w 0) q (.CC (y l.l) (w l.l)) .normal e f:=by
  intro d b i h e f m k F c;obtain⟨xa,xh,xb,xc⟩:=c.TV g c.cm Om (λa Q o T E I U=>by have:=c.c2 a Q o E I U;rw[F a (by rw[<-g.A7];omega)]at this;grind)
  refine⟨B,h,⟨λxd X=> ?_,xc,c.Qa,c.R2⟩,c.Am.Sp xa (J7 g.Ar Om (CK _)) B xb⟩;have:=c.tr xd X;rwa[Z1 (λZ W=>by have M:=AeD W;rw[g.T.FU Z _ M];unfold Ls;rw[M];rfl) Om (λx xg _=>F x (by rw[<-g.A7];omega))]at this
 intro j
 induction j with
 |zero=>
  intro d b i h e f m k V c
  have F:=ek (c:=b) (b:=t.z) (by omega)
  refine⟨?_,P⟩
  cases N:Region.ready .any t d with
  |nil=>rfl
  |cons a xi=>
   exfalso;have:a∈Region.ready .any t d:=by grind
   obtain⟨_⟩:=cd.1 this;grind
 |succ j Y=>
  intro d b i h e f m k V c;refine⟨λN=>S m k (λa G=>YF g m k N (a+1) a Om G) c,λa G=> ?_⟩;obtain⟨o,T,Q,E,I⟩:=cd.1 G;have J:b a=Aa:=by grind
  refine c.wH g E J P λxf xk xe xj R=> ?_;refine Y (by grind) (λx=> ?_) (by have:=ei J o;omega) R;by_cases H:x=a;.subst H;rw[NR];simp[m,o]
  .rw[L_ b H,<-k x];simp only[AeR];grind
end
theorem em{u:Program}{v:D}{t:Bg Oper}:∀l a,(Lp u v t l a).l=l.l
 |[],a=>rfl
 |e::c,a=>by obtain⟨d,b,_⟩:=Zg;rw[b];simp[em c]
theorem el{u:Program}{v:D}{t:Bg Oper}:∀l a (d:D)(b:Oper),l[d]? =A b->∃c,(Lp u v t l a)[d]? =A c/\((c.DZ=O/\c.op=.CS)\/(SD t b.guard=A c.DZ/\c.De=b.dst.map pos/\(∀f,b.dst=A f->f<v)/\c.op=(DS u b).g .CS/\c.bits=(a[d]?).g 0))
 |[],a,d,b,e=>by grind
 |M::h,a,0,b,e=>by
  simp at e;subst e;have F:a.headD 0=(a[0]?).g 0:=by cases a<;>rfl
  refine⟨_,B,?_⟩;split
  .rename_i P H;split
   .rename_i f G;split;.rename_i I;exact .j ⟨H,by grind,λN g=>by rw[G]at g;cases g;exact AdT I,B,F⟩
    grind
   grind
  grind
 |M::h,a,d+1,b,e=>by obtain⟨c,o,_⟩:=Zg;rw[o];obtain⟨J,x,E⟩:=el h a.tail d b e;refine⟨J,x,E.imp id λ⟨i,j,k,m,n⟩=>⟨i,j,k,m,?_⟩⟩;rw[n];cases a<;>simp
theorem ew{u:Program}(X:u.follows .mixedOrders=L)(z:Bd)(U:Jm u z)(Z:Iv z):V8 u z:=by
 intro v xe t xj xk xb xc xi xg Y V d H xd E;obtain⟨y,w,s,r,M,N,o,g⟩:=cE _ _ _ _ _ (by rw[H];omega);rw[H]at o;subst o;generalize G:Lp u v t t.l (Region.before t).l=l at*;have W:l.l=t.z:=by rw[<-G,em];simp
 obtain⟨xa,xh⟩:=nn V (by omega);have c:Ll u z v t l y w s r:={
  gH:=U
  gJ:=Z
  gI:=Y
  A7:=W
  T:=g
  Vw:=xa
  da:=λa n F=>P
  Uo:=λa n F=>by
   obtain⟨m,b,k⟩:=el t.l (Region.before t).l a n (by grind);rw[G]at b;refine⟨m,b,?_⟩;rcases k with⟨i,j⟩|⟨i,j,Q,R,S⟩;.exfalso;have I:=g.TU a m b;rw[i]at I;have:=g.Sk a m b I;rw[j]at this;cases this
   .refine⟨i,j,Q,R,?_⟩;rw[S,AeR,AfL]}
 subst M N;refine wp_region_any X (Aa7 c t.z (by simp) (λa=> ?_) ?_ {
  BT:=λa J x _=>by omega
  tr:=by rw[ft];exact d.tr
  Qa:=d.Ez
  R2:=d.Sj
  cm:=AeA _
  c1:=λa n x=>Om
  c2:=λ_ _ _ _ _ _=>B
  c3:=.i B
  E8:=d.hr.E8
  Pd:=λa F _ h b k=>E h (Aem (J7 c.Ar Om (by omega)) b) (Aen k (J7 c.Ar (by omega) Om))
  Tx:=λJ x=>Om
  Am:=JM.ON d.hr (λh f=>PB f) (E) (λh f=>by rw[h4 c.Ar (AeA _) (CK _) (λJ b _=>Aem (J7 c.Ar (by omega) (CK _)) f),ue f]) B ⟨B,B,B,λ_=>B⟩})
 .simp[Array.getD]
 .exact(λe=>by
  induction e with
  |zero=>exact CK _
  |succ e xf=>unfold Md;grind:∀e,Md (λ_=>Aa) e<=e) _
def G.Aq:G:=⟨.nil,.h⟩
theorem G.Oa(a:T):G.Aq.M a=O:=rfl
def JC(u:T->C F->Ae F)(f:Bd):Bd:=λd e g=>match FV g e with
 |some (b,c)=>match u d b with
  |some a=>A (a,c)
  |none=>match f d b G.Aq with
   |some (a,h)=>match Dp h a with
    |some (i,_)=>A (i,c)
    |none=>O
   |none=>O
 |none=>O
def R1(t:Program)(e:D)(h:C F)(k:F):Prop:=
 (∃a,t.funcs[e]? =A a/\a.body.isNone=Aa/\(a.name== "runtime.NumGoroutine")=Aa)/\
 ∀(c:AT)(b:By)(d:Bg Ba),Bw c.Fv h d.l->HR c.Fv G.Aq b->
  Calls t e d b λi l=>∃f g j,i=.returned f/\VR g.Fv k f/\Fin c.Fv G.Aq b g j l
def RZ(t:Program)(u:T->C F->Ae F):Prop:=∀a b c,a<1000000->u (pos a) b=A c->R1 t a b c
theorem vp(t:Program):RZ t (λ_ _=>O):=λ_ _ _ _ a=>by grind
section
variable{t:Program}
theorem HR.Fv{e:AT}{f:G}{d:By}(h:HR e f d):HR e.Fv G.Aq d where
 EJ:=h.EJ
 Fg b k c q o p a:=by rw[G.Oa]at a;grind
 Ca b k c a:=by rw[G.Oa]at a;grind
 EH g n l m i:=BF (G.Oa g) i
 lt b c j:=by cases j
 E8 b a:=BF (G.Oa b) a
theorem Fin.rG{g n:AT}{o H:G}{l y:By}(e:HR g o l)(h:Fin g.Fv G.Aq l n H y):Fin g o l ⟨g.m,n.im⟩ o y:=by
 have J:=λa j=>h.FU a j λb c f=>by cases f
 have x:g.le ⟨g.m,n.im⟩:=⟨P,h.ext.2⟩;have M:∀k a i,n.im k a i->a<l.heap.z->∃r q,g.im r a q:=λk a i p j=>by
  rcases h.Hb k a i p j with E|⟨Q,N,z,_⟩;.exact E
  .cases z
 exact{
  ext:=x
  F8:=λb R S=>P
  hr:={
   EJ:=h.hr.EJ
   Fg:=λb m c k a i f I d p s=>by obtain⟨r,q,F⟩:=M k a i p (by rw[s];exact e.lt b c d);exact e.Fg b m c r a q f I d F s
   Ca:=λb m c f d=>(e.Ca b m c f d).Ar x (J _ (e.lt b c d))
   EH:=e.EH
   lt:=λb c d=>Aen (e.lt b c d) P
   E8:=e.E8}
  up:=CK _
  Ez:=h.Ez
  FU:=λa j _=>P
  Gf:=λb c d f _=>⟨b,c,d,f,B⟩
  Hb:=λm a i T j=>P
  HA:=λ_ _ _=>B
  AD:=h.AD}
theorem AT.lE(c:T->Ae Fe)(b:AT):b.Fv.le ⟨c,b.im⟩:=⟨λ_ _ a=>(by cases a),λ_ _ _ a=>a⟩
theorem ke{c:Bd}(o:Jm t c){a:D}{b:C F}{h i:F}{e f:G}(p:a<1000000)(d:c (pos a) b G.Aq=A (h,e))(k:Dp e h=A (i,f)):R1 t a b i:=by
 obtain⟨r,s⟩:=o a b _ _ _ p d
 refine⟨r,λE z j q n=>(s E.Fv z j q n (λ_ _ _=>B)).mono ?_⟩
 rintro d J ⟨y,M,rfl,x,g⟩
 obtain⟨H,l,I,m⟩:=oV (v:=t) g.hr x k
 exact⟨y,H,f,B,m,g.AI l⟩
theorem vs{u:T->C F->Ae F}{e:Bd}(o:RZ t u)(n:Jm t e){b:D}{d c:C F}{f h g:G}{j:F}(i:b<1000000)(k:FV f d=A (c,h))(a:JC u e (pos b) d f=A (j,g)):R1 t b c j/\g=h:=by
 unfold JC at a;rw[k]at a;simp only[]at a;split at a
 .rename_i q p;cases a
  exact⟨o b c _ i p,B⟩
 .split at a;case h_2=>grind
  rename_i q r l;split at a;case h_2=>grind
  rename_i x s m;cases a
  exact⟨ke n i l m,B⟩
theorem vr{u:T->C F->Ae F}{e:Bd}(q:RZ t u)(o:Jm t e):Jm t (JC u e):=by
 intro J j m M G p a
 obtain⟨d,g,f⟩:∃d g,FV m j=A (d,g):=by unfold JC at a;grind
 obtain⟨h,rfl⟩:=vs q o p f a
 refine⟨h.1,λQ z k r n I=> ?_⟩
 obtain⟨c,b,E,l⟩:=oY (v:=t) n r f
 refine(h.2 c z k l b.hr.Fv).mono ?_
 rintro a N ⟨y,i,H,rfl,s,x⟩
 exact⟨y,⟨c.m,i.im⟩,B,s.Ar (AT.lE c.m i),b.AI (Fin.rG b.hr x)⟩
theorem vt{u:T->C F->Ae F}{b:Bd}:Iv (JC u b):=by
 intro f d g j h a;unfold JC at a;split at a;case h_2=>grind
 rename_i e i c;have:=(oX c).1.next
 grind
def H5(v:T->Ae Gk)(a:D)(c:Bd):Bd:=λd b f=>match v d with
 |none=>O
 |some e=>MC a c e b f
def KJ(u:T->C F->Ae F)(w:T->Ah)(v:T->Ae Gk)(b:D)(d:Bd):Bd:=λa c e=>
 Aj (w a) (H5 v b d a c e) (JC u (H5 v b d) a c e)
def Qf(u:T->C F->Ae F)(w:T->Ah)(v:T->Ae Gk)(a:D):D->Bd
 |0=>λ_ _ _=>O
 |b+1=>KJ u w v a (Qf u w v a b)
variable{u:T->C F->Ae F} {w:T->Ah} {v:T->Ae Gk}
theorem mT{c:D}{b:Bd}(d:Iv b):Iv (H5 v c b):=by
 intro f e d h g a;unfold H5 at a;split at a;.grind
 .exact d3 ‹_› a
theorem Aaz{d:D}{c:Bd}(f:Iv c):Iv (KJ u w v d c):=by
 intro e g f i h a
 unfold KJ at a
 cases b:w e with
 |true=>rw[b]at a;exact mT ‹_› _ _ _ _ _ a
 |false=>rw[b]at a;exact vt _ _ _ _ _ a
theorem d7{b:D}:∀a,Iv (Qf u w v b a)
 |0=>λ_ _ _ _ _ c=>by cases c
 |a+1=>Aaz (d7 a)
theorem mS(h:t.follows .mixedOrders=L)(l:∀a d,a<1000000->v (pos a)=A d->Iz t a=A d){f:D}{b:Bd}(g:Jm t b)(e:Iv b):Jm t (H5 v f b):=by
 intro a i g o k n c;unfold H5 at c;split at c;.grind
 .rename_i j m;exact d2 ‹_› e (ew h _ ‹_› e) P c
theorem d6(m:t.follows .mixedOrders=L)(k:∀b j,b<1000000->v (pos b)=A j->Iz t b=A j)(n:RZ t u){c:D}:∀b,Jm t (Qf u w v c b)
 |0=>λ_ _ _ _ _ _ a=>by cases a
 |b+1=>by
  have o:=mS (f:=c) m k (d6 m k n b) (d7 (b:=c) b)
  intro d e f h g l a
  have a:KJ u w v c (Qf u w v c b) (pos d) e f=A (h,g):=a
  unfold KJ at a
  cases i:w (pos d)with
  |true=>rw[i]at a;exact o d e f h g l a
  |false=>rw[i]at a;exact vr n o d e f h g l a
end
section
def E1(t y:Bd):Prop:=∀c a b d,t c a b=A d->y c a b=A d
theorem E1.refl(t:Bd):E1 t t:=λ_ _ _ _ a=>a
theorem E1.AI{a b c:Bd}(e:E1 a b)(f:E1 b c):E1 a c:=λ_ _ _ _ d=>f _ _ _ _ (e _ _ _ _ d)
section
variable{t y:Bd} (z:E1 t y)
theorem WP(z:E1 t y){e:Io}{b:Fm}{c:G}{d:F×G}(a:D8 t e b c=A d):D8 y e b c=A d:=by
 cases e with
 |call f g=>
  have a:C8 t (f.ev b) (AU b g) c=A d:=a;show C8 y (f.ev b) (AU b g) c=A d;unfold C8 at a⊢;split at a;.exact z _ _ _ _ a
  omega
 |rd=>exact a
 |al=>exact a
 |ef=>exact a
 |CS=>exact a
theorem WQ(z:E1 t y):∀{h:C Cx}{b:Fm}{c:G}{d:Cy},HK t h b c=d->d≠.Cd->HK y h b c=d
 |[],b,c,d,a,e=>a
 |i::l,b,c,d,a,e=>by
  unfold HK at a⊢
  cases g:G5 i.DZ b with
  |false=>rw[g]at a;exact WQ z a e
  |true=>
   rw[g]at a
   cases f:D8 t i.op b c with
   |none=>rw[f]at a;exact BF a.s e
   |some j=>rw[f]at a;rw[WP z f];obtain⟨m,k⟩:=j;exact WQ z a e
theorem WO(z:E1 t y):∀{j:C Cx}{g:D}{e:Kj}{b:Fm}{c:G}{d:Cy},E6 t j g e b c=d->d≠.Cd->E6 y j g e b c=d
 |[],g,e,b,c,d,a,f=>a
 |k::n,g,e,b,c,d,a,f=>by
  rw[Lu]at a⊢
  cases i:G5 k.DZ b with
  |false=>rw[i]at a;exact WO z a f
  |true=>
   rw[i]at a
   cases h:D8 t k.op b c with
   |none=>rw[h]at a;exact BF a.s f
   |some l=>
    rw[h]at a;rw[WP z h];obtain⟨o,m⟩:=l;unfold HG at a⊢;simp only[]at a⊢;split at a;.exact WO z a f
    grind
end
theorem PU{f:Fm->G->Cy}{a b:Cy}(c:FM f a=b)(e:b≠.Cd):a≠.Cd:=by intro d;subst d;exact e c.s
theorem U9{e h:Fm->G->Cy}(l:∀d c a,e d c=a->a≠.Cd->h d c=a):∀{f g:D}{d:Fm}{c:G}{a:Cy},f<=g->HO e f d c=a->a≠.Cd->HO h g d c=a
 |0,g,d,c,a,_,b,i=>BF b.s i
 |f+1,0,d,c,a,m,_,_=>by omega
 |f+1,g+1,d,c,a,m,b,i=>by
  have b:FM (HO e f) (e d c)=a:=b
  show FM (HO h g) (h d c)=a
  have k:=PU b i
  rw[l _ _ _ B k]
  cases j:e d c with
  |CC n k=>rw[j]at b;exact U9 l (by omega) b i
  |Dd _ _=>rw[j]at b;exact b
  |Ck _ _ _=>rw[j]at b;exact b
  |Cd=>grind
theorem Ji{t y:Bd}(z:E1 t y){g i:D}(j:g<=i):∀n {b:Fm}{d:G}{f:Cy},BM g t n b d=f->f≠.Cd->BM i y n b d=f
 | .skip,_,_,_,a,_=>a
 | .HT p,_,_,_,a,c=>WQ z a c
 | .Hl p,_,_,_,a,c=>WO z a c
 | .Ck _,_,_,_,a,_=>a
 | .Dd,_,_,_,a,_=>a
 | .CS,_,_,_,a,c=>BF a.s c
 | .D2 h e,b,d,f,a,c=>by
  have a:FM (BM g t e) (BM g t h b d)=f:=a
  show FM (BM i y e) (BM i y h b d)=f
  have l:=PU a c
  rw[Ji z j h B l]
  cases k:BM g t h b d with
  |CC r l=>rw[k]at a;exact Ji z j e a c
  |Dd _ _=>rw[k]at a;exact a
  |Ck _ _ _=>rw[k]at a;exact a
  |Cd=>grind
 | .GB m h e,b,d,f,a,c=>by
  have a:Jq (BM g t h b d) (BM g t e b d) (m.ev b)=f:=a;show Jq (BM i y h b d) (BM i y e b d) (m.ev b)=f;generalize m.ev b=q at a⊢;unfold Jq at a⊢;split at a;.exact Ji z j h a c
  .exact Ji z j e a c
  .exact BF a.s c
 | .Bc o e,b,d,f,a,c=>by
  have a:KV o (BM g t e b d)=f:=a;show KV o (BM i y e b d)=f;have l:BM g t e b d≠.Cd:=by intro k;rw[k]at a;exact c a.s
  rw[Ji z j e B l];omega
 | .Dt e,b,d,f,a,c=>U9 (λb d f a c=>Ji z j e a c) j (a) c
theorem d1{t y:Bd}(z:E1 t y){b f:D}(i:b<=f){a:Gk}{c:C F}{e:G}{g:F×G}(d:MC b t a c e=A g):MC f y a c e=A g:=by
 unfold MC at d⊢;have h:BM b t a.Ln (Jt c .h .nil) e≠.Cd:=by intro j;rw[j]at d;cases d
 rw[Ji z i a.Ln B h];omega
variable{v:T->C F->Ae F} {w:T->Ah} {u:T->Ae Gk}
theorem d9{t y:Bd}(z:E1 t y){b c:D}(d:b<=c):E1 (H5 u b t) (H5 u c y):=by
 intro g e f h a;unfold H5 at a⊢;split at a;.omega
 .exact d1 z d a
theorem vq{t y:Bd}(z:E1 t y):E1 (JC v t) (JC v y):=by
 intro i c f j a;unfold JC at a⊢;split at a;case h_2=>omega
 rename_i d g e;split at a;.omega
 .split at a;case h_2=>grind
  rename_i k h b;rw[z _ _ _ _ b];omega
theorem j3{t y:Bd}(z:E1 t y){b c:D}(e:b<=c):E1 (KJ v w u b t) (KJ v w u c y):=by
 intro f g h i a
 unfold KJ at a⊢
 cases d:w f with
 |true=>rw[d]at a;exact d9 z e _ _ _ _ a
 |false=>rw[d]at a;exact vq (d9 z e) _ _ _ _ a
theorem Y9{c d:D}(e:c<=d):∀{a b:D},a<=b->E1 (Qf v w u c a) (Qf v w u d b)
 |0,_,_=>λ_ _ _ _ f=>by cases f
 |a+1,0,g=>by omega
 |a+1,b+1,g=>j3 (Y9 e (by omega)) e
variable(v:T->C F->Ae F) (w:T->Ah) (u:T->Ae Gk)
def U(a:D):Bd:=Qf v w u a a
open Classical in
def W:Bd:=λd a c=>if b:∃e f,U v w u e d a c=A f then A (Classical.choose (AfU b))else O
variable{v w u}
theorem Mw{c b:D}(a:c<=b):E1 (U v w u c) (U v w u b):=Y9 a a
theorem Wd{f:T}{c:C F}{d:G}{g:F×G}:W v w u f c d=A g↔∃a,U v w u a f c d=A g:=by
 unfold W;split
 .rename_i b;have e:=AfU (AfU b);constructor;.intro j;cases j;exact⟨_,e⟩
  .rintro⟨a,i⟩
   have h:=Mw (Nat.le_max_right (Classical.choose b) a) _ _ _ _ i;rw[(Mw (AfV (Classical.choose b) a) _ _ _ _ e)]at h;omega
 grind
theorem e6{e:Io}{b:Fm}{c:G}{f:F×G}(a:D8 (W v w u) e b c=A f):∃d,D8 (U v w u d) e b c=A f:=by
 cases e with
 |call g j=>
  have a:C8 (W v w u) (g.ev b) (AU b j) c=A f:=a;unfold C8 at a;split at a;.rename_i l k h;obtain⟨d,i⟩:=Wd.1 a;exact⟨d,by show C8 _ _ _ _=_;rw[h];exact i⟩
  grind
 |rd=>exact⟨0,a⟩
 |al=>exact⟨0,a⟩
 |ef=>exact⟨0,a⟩
 |CS=>exact⟨0,a⟩
theorem ZN:∀{h:C Cx}{b:Fm}{c:G}{e:Cy},HK (W v w u) h b c=e->e≠.Cd->∃l,HK (U v w u l) h b c=e
 |[],b,c,e,a,d=>⟨0,a⟩
 |i::q,b,c,e,a,d=>by
  unfold HK at a⊢
  cases g:G5 i.DZ b with
  |false=>rw[g]at a;exact ZN a d
  |true=>
   rw[g]at a
   cases f:D8 (W v w u) i.op b c with
   |none=>rw[f]at a;exact BF a.s d
   |some o=>rw[f]at a;obtain⟨r,p⟩:=o;obtain⟨m,j⟩:=e6 f;obtain⟨n,k⟩:=ZN a d;refine⟨max m n,?_⟩;rw[WP (Mw Om) j];exact WQ (Mw Om) k d
theorem ZJ:∀{k:C Cx}{h:D}{g:Kj}{b:Fm}{c:G}{e:Cy},E6 (W v w u) k h g b c=e->e≠.Cd->∃i,E6 (U v w u i) k h g b c=e
 |[],h,g,b,c,e,a,d=>⟨0,a⟩
 |l::F,h,g,b,c,e,a,d=>by
  rw[Lu]at a
  cases f:G5 l.DZ b with
  |false=>rw[f]at a;obtain⟨i,n⟩:=ZJ a d;exact⟨i,by rw[Lu,f];exact n⟩
  |true=>
   rw[f]at a
   cases j:D8 (W v w u) l.op b c with
   |none=>rw[j]at a;exact BF a.s d
   |some s=>
    rw[j]at a;obtain⟨H,E⟩:=s;obtain⟨q,o⟩:=e6 j;unfold HG at a;simp only[]at a;split at a;.rename_i x m;obtain⟨r,p⟩:=ZJ a d;refine⟨max q r,?_⟩;rw[Lu,f];rw[WP (Mw Om) o];unfold HG;simp only[m];exact WO (Mw Om) p d
    grind
theorem hP{d:Bd->Fm->G->Cy}(j:∀t y,E1 t y->∀c b a,d t c b=a->a≠.Cd->d y c b=a)(n:∀c b a,d (W v w u) c b=a->a≠.Cd->∃k,d (U v w u k) c b=a):∀{f:D}{c:Fm}{b:G}{a:Cy},HO (d (W v w u)) f c b=a->a≠.Cd->∃k,HO (d (U v w u k)) f c b=a
 |0,c,b,a,e,i=>BF e.s i
 |f+1,c,b,a,e,i=>by
  have e:FM (HO (d (W v w u)) f) (d (W v w u) c b)=a:=e
  have m:=PU e i
  obtain⟨h,g⟩:=n _ _ _ B m
  cases l:d (W v w u) c b with
  |CC q m=>rw[l]at e g;obtain⟨o,p⟩:=hP j n e i;refine⟨max h o,?_⟩;show FM (HO _ f) (d (U v w u (max h o)) c b)=a;rw[j _ _ (Mw Om) _ _ _ g (by grind)];exact U9 (j _ _ (Mw Om)) Om p i
  |Dd _ _=>rw[l]at e g;exact⟨h,by show FM (HO _ f) (d (U v w u h) c b)=a;rw[g];exact e⟩
  |Ck _ _ _=>rw[l]at e g;exact⟨h,by show FM (HO _ f) (d (U v w u h) c b)=a;rw[g];exact e⟩
  |Cd=>grind
theorem RF{f:D}:∀p {c:Fm}{e:G}{h:Cy},BM f (W v w u) p c e=h->h≠.Cd->∃j,BM f (U v w u j) p c e=h
 | .skip,_,_,_,a,_=>⟨0,a⟩
 | .HT E,_,_,_,a,d=>ZN a d
 | .Hl E,_,_,_,a,d=>ZJ a d
 | .Ck _,_,_,_,a,_=>⟨0,a⟩
 | .Dd,_,_,_,a,_=>⟨0,a⟩
 | .CS,_,_,_,a,d=>BF a.s d
 | .D2 i g,c,e,h,a,d=>by
  have a:FM (BM f (W v w u) g) (BM f (W v w u) i c e)=h:=a
  have n:=PU a d
  obtain⟨l,k⟩:=RF i B n
  cases m:BM f (W v w u) i c e with
  |CC I n=>rw[m]at a k;obtain⟨r,x⟩:=RF g a d;refine⟨max l r,?_⟩;show FM _ (BM f (U v w u (max l r)) i c e)=h;rw[Ji (Mw Om) Om i k (by grind)];exact Ji (Mw Om) Om g x d
  |Dd _ _=>rw[m]at a k;exact⟨l,by show FM _ (BM f (U v w u l) i c e)=h;rw[k];exact a⟩
  |Ck _ _ _=>rw[m]at a k;exact⟨l,by show FM _ (BM f (U v w u l) i c e)=h;rw[k];exact a⟩
  |Cd=>exact BF m n
 | .GB o i g,c,e,h,a,d=>by
  have a:Jq (BM f (W v w u) i c e) (BM f (W v w u) g c e) (o.ev c)=h:=a;have s:∀j,BM f (U v w u j) (.GB o i g) c e=Jq (BM f (U v w u j) i c e) (BM f (U v w u j) g c e) (o.ev c):=λ_=>B;simp only[s];generalize o.ev c=H at a⊢;unfold Jq at a⊢;split at a;.exact RF i a d
  .exact RF g a d
  .exact BF a.s d
 | .Bc q g,c,e,h,a,d=>by
  have a:KV q (BM f (W v w u) g c e)=h:=a;have n:BM f (W v w u) g c e≠.Cd:=by intro m;rw[m]at a;exact d a.s
  obtain⟨j,F⟩:=RF g B n;exact⟨j,by show KV q (BM f (U v w u j) g c e)=h;grind⟩
 | .Dt g,c,e,h,a,d=>hP (d:=λt=>BM f t g) (λ_ _ z _ _ _ a d=>Ji z Om g a d) (λ_ _ _ a d=>RF g a d) (a) d
theorem d8{b:D}{e:T}{c:C F}{d:G}{h:F×G}(a:H5 u b (W v w u) e c d=A h):∃g,H5 u b (U v w u g) e c d=A h:=by
 unfold H5 at a⊢;split at a;.grind
 .rename_i f k;unfold MC at a⊢;have i:BM b (W v w u) f.Ln (Jt c .h .nil) d≠.Cd:=by intro j;rw[j]at a;cases a
  obtain⟨g,l⟩:=RF f.Ln B i;grind
theorem Yp{c:D}{d:T}{e:C F}{f:G}{g:F×G}(a:KJ v w u c (W v w u) d e f=A g):W v w u d e f=A g:=by
 have:∃b,KJ v w u c (U v w u b) d e f=A g:=by
  unfold KJ at a⊢
  cases i:w d with
  |true=>rw[i]at a;exact d8 a
  |false=>
   rw[i]at a;show∃b,JC v (H5 u c (U v w u b)) d e f=A g;unfold JC at a⊢;split at a;case h_2=>grind
   rename_i k m l;split at a;.exact⟨0,a⟩
   .split at a;case h_2=>grind
    rename_i o n j;obtain⟨b,h⟩:=d8 j;exact⟨b,by rw[h];exact a⟩
 obtain⟨b,h⟩:=this;refine Wd.2 ⟨max b c+1,?_⟩;exact j3 (E1.AI (Mw (AfV b c)) (Y9 (by omega) (CK _))) (by omega) _ _ _ _ h
open Classical in
def C_ (t:Bd) (a:G7) (c:Fm) (b:G):Cy:=if e:∃d,BM d t a c b≠.Cd then BM (Classical.choose e) t a c b else .Cd
section
variable{t:Bd}
theorem Hz{a:D}{b:G7}{f:Fm}{c:G}{e:Cy}(g:BM a t b f c=e)(h:e≠.Cd):C_ t b f c=e:=by unfold C_;have d:∃a,BM a t b f c≠.Cd:=⟨a,by rw[g];exact h⟩;rw[dif_pos d,<-(Ji (E1.refl t) (AfV (Classical.choose d) a) b B P),(Ji (E1.refl t) (Nat.le_max_right (Classical.choose d) a) b g h)]
theorem Jh{b:G7}{e:Fm}{d:G}{a:Cy}(c:C_ t b e d=a)(g:a≠.Cd):∃f,BM f t b e d=a:=by unfold C_ at c;split at c<;>grind
theorem w1{c:G7}{f:Fm}{d:G}{b:Cy}(e:b≠.Cd):C_ t c f d=b↔∃g,BM g t c f d=b:=⟨λa=>Jh a e,λ⟨_,a⟩=>Hz a e⟩
theorem Ts{b c:Cy}(d:∀a,a≠.Cd->b=a->c=a)(e:∀a,a≠.Cd->c=a->b=a):b=c:=by grind
theorem w6(b:Fm)(a:G):C_ t .skip b a=.CC b a:=Hz (a:=0) B (by grind)
theorem w4(b:Fm)(a:G):C_ t .Dd b a=.Dd b a:=Hz (a:=0) B (by grind)
theorem w0(b:D)(c:Fm)(a:G):C_ t (.Ck b) c a=.Ck b c a:=Hz (a:=0) B (by grind)
theorem w3(d:C Cx)(e:Fm)(c:G):C_ t (.HT d) e c=HK t d e c:=
 Ts (λf b a=>by obtain⟨g,a⟩:=Jh a b;exact a) (λf b a=>Hz (a:=0) a b)
theorem wZ(d:C Cx)(e:Fm)(c:G):C_ t (.Hl d) e c=E6 t d 0 ⟨[],[]⟩ e c:=
 Ts (λf b a=>by obtain⟨g,a⟩:=Jh a b;exact a) (λf b a=>Hz (a:=0) a b)
theorem w5(d g:G7)(f:Fm)(e:G):C_ t (.D2 d g) f e=FM (C_ t g) (C_ t d f e):=by
 refine Ts (λk c a=> ?_) (λk c a=> ?_)
 .obtain⟨b,a⟩:=Jh a c
  have a:FM (BM b t g) (BM b t d f e)=k:=a
  have j:=PU a c
  rw[Hz B j]
  cases h:BM b t d f e with
  |CC n j=>rw[h]at a;exact Hz a c
  |Dd _ _=>rw[h]at a;exact a
  |Ck _ _ _=>rw[h]at a;exact a
  |Cd=>grind
 .have j:=PU a c
  obtain⟨b,i⟩:=Jh B j
  cases h:C_ t d f e with
  |CC n j=>rw[h]at a i;obtain⟨l,m⟩:=Jh (a) c;refine Hz (a:=max b l) ?_ c;show FM (BM (max b l) t g) (BM (max b l) t d f e)=k;rw[Ji (E1.refl t) Om d i (by grind)];exact Ji (E1.refl t) Om g m c
  |Dd _ _=>rw[h]at a i;exact Hz (by show FM (BM b t g) (BM b t d f e)=k;rw[i];exact a) c
  |Ck _ _ _=>rw[h]at a i;exact Hz (by show FM (BM b t g) (BM b t d f e)=k;rw[i];exact a) c
  |Cd=>grind
theorem wY(e:Od)(g h:G7)(b:Fm)(d:G):C_ t (.GB e g h) b d=Jq (C_ t g b d) (C_ t h b d) (e.ev b):=by
 have i:∀f,BM f t (.GB e g h) b d=Jq (BM f t g b d) (BM f t h b d) (e.ev b):=λ_=>B;refine Ts (λj c a=> ?_) (λj c a=> ?_)
 .obtain⟨f,a⟩:=Jh a c;rw[i]at a;generalize e.ev b=k at a⊢;unfold Jq at a⊢;split at a;.exact Hz a c
  .exact Hz a c
  omega
 .rw[w1 c];simp only[i];generalize e.ev b=k at a⊢;unfold Jq at a⊢;split at a;.exact Jh a c
  .exact Jh a c
  grind
theorem wX(g:D)(b:G7)(d:Fm)(c:G):C_ t (.Bc g b) d c=KV g (C_ t b d c):=by
 refine Ts (λi e a=> ?_) (λi e a=> ?_)
 .obtain⟨f,a⟩:=Jh a e;have a:KV g (BM f t b d c)=i:=a;have h:BM f t b d c≠.Cd:=by intro j;rw[j]at a;exact e a.s
  rw[Hz B h];exact a
 .have h:C_ t b d c≠.Cd:=by intro j;rw[j]at a;exact e a.s
  obtain⟨f,k⟩:=Jh B h;exact Hz (by show KV g (BM f t b d c)=i;grind) e
theorem w2(c:G7)(f:Fm)(e:G):C_ t (.Dt c) f e=FM (C_ t (.Dt c)) (C_ t c f e):=by
 refine Ts (λj d a=> ?_) (λj d a=> ?_)
 .obtain⟨b,a⟩:=Jh a d
  cases b with
  |zero=>exact BF (a).s d
  |succ b=>
   have a:FM (HO (BM (b+1) t c) b) (BM (b+1) t c f e)=j:=a
   have i:=PU a d
   rw[Hz B i]
   cases g:BM (b+1) t c f e with
   |CC m i=>rw[g]at a;refine Hz (a:=b+1) ?_ d;exact U9 P Om (a) d
   |Dd _ _=>rw[g]at a;exact a
   |Ck _ _ _=>rw[g]at a;exact a
   |Cd=>grind
 .have i:=PU a d
  obtain⟨b,h⟩:=Jh B i
  cases g:C_ t c f e with
  |CC m i=>rw[g]at a h;obtain⟨k,l⟩:=Jh (a) d;refine Hz (a:=max b k+1) ?_ d;show FM (HO (BM (max b k+1) t c) (max b k)) (BM (max b k+1) t c f e)=j;rw[Ji (E1.refl t) (by omega) c h (by grind)];exact U9 (λ_ _ _ a d=>Ji (E1.refl t) (by omega) c a d) (by omega) l d
  |Dd _ _=>rw[g]at a h;exact Hz (a:=b+1) (by show FM _ (BM (b+1) t c f e)=j;rw[Ji (E1.refl t) Om c h (by grind)];exact a) d
  |Ck _ _ _=>rw[g]at a h;exact Hz (a:=b+1) (by show FM _ (BM (b+1) t c f e)=j;rw[Ji (E1.refl t) Om c h (by grind)];exact a) d
  |Cd=>grind
end
def RD(t:Bd)(a:Gk)(b:C F)(c:G):Ae (F×G):=U2 a.GR (C_ t a.Ln (Jt b .h .nil) c)
theorem cl{t:Bd}{d:Gk}{b:C F}{e:G}{f:F×G}(c:RD t d b e=A f):∃a,MC a t d b e=A f:=by
 unfold RD at c;have g:C_ t d.Ln (Jt b .h .nil) e≠.Cd:=by intro h;rw[h]at c;cases c
 obtain⟨a,i⟩:=Jh B g;exact⟨a,by unfold MC;grind⟩
theorem kY{a:T}{c:Gk}{b:C F}{d:G}{e:F×G}(h:w a=L)(j:u a=A c)(g:RD (W v w u) c b d=A e):W v w u a b d=A e:=by obtain⟨f,i⟩:=cl g;refine Yp (c:=f) ?_;unfold KJ;rw[h];unfold H5;grind
theorem kZ{a:T}{j:Gk}{d b:C F}{e f g l:G}{h i:F}(n:w a=Aa)(o:u a=A j)(p:FV e d=A (b,f))(q:v a b=O)(k:RD (W v w u) j b G.Aq=A (h,g))(r:Dp g h=A (i,l)):W v w u a d e=A (i,f):=by
 obtain⟨c,m⟩:=cl k;refine Yp (c:=c) ?_;unfold KJ;rw[n];show JC v (H5 u c (W v w u)) a d e=A (i,f);unfold JC;have m:H5 u c (W v w u) a b G.Aq=A (h,g):=by unfold H5;grind
 grind
theorem k0{b:Program}(i:b.follows .mixedOrders=L)(h:∀a c,a<1000000->u (pos a)=A c->Iz b a=A c)(l:RZ b v):Jm b (W v w u):=by intro a d f n g k e;obtain⟨m,j⟩:=Wd.1 e;exact(d6 i h l m a d f n g k j)
theorem k1{b:Program}(l:b.follows .mixedOrders=L)(k:∀a d,a<1000000->u (pos a)=A d->Iz b a=A d)(n:RZ b v){a:D}{c:C F}{f g:F}{e j:G}(m:a<1000000)(h:W v w u (pos a) c G.Aq=A (f,e))(i:Dp e f=A (g,j)):R1 b a c g:=ke (k0 l k n) m h i
end
