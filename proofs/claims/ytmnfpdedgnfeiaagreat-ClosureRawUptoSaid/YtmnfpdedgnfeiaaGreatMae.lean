/- Part of the proof. -/
import Derived.Test.YtmnfpdedgnfeiaaGreatMad
set_option linter.all false
noncomputable section
open Option renaming some->A,none->O,getD->Option.g,bind->Option.b
open _root_ renaming rfl->B,List->C,Nat->D,if_neg->Ad,if_pos->Af,Option->Aj,Bool->Ak,cond->An,absurd->A_,Array->Br
open Bool renaming true->L,false->Ac
open Go renaming Value->Bl,World->BH
open Nat renaming le_refl->C6
open List renaming length->List.l,map->List.m,take->List.t,flatMap->List.f
open Array renaming toList->Array.l,size->Array.z
open Eq renaming trans->Eq.t,symm->Eq.s
open Or renaming inl->Or.i,inr->Or.j
namespace Go.Fg
structure KB(z:A0)(v:G)(s:BH)(u:A0)(g:Aa->Aj Ce)(q:D)(w:BH):Prop where
 ext:z.le u
 Gl:∀a,z a=O->u a≠O->v.next.num<=a.num/\a.num<q
 E4:∀d c e,u.im d c e->BI u.FH d c e w
 Fw:∀a d b I c e,g a=A d->d.Wn=L->u a=A b->u.im I c e->c≠b.r
 BB:∀a d b,g a=A d->u a=A b->BR u d b w
 C3:∀j k x E,g j≠O->g k≠O->u j=A x->u k=A E->x.r=E.r->j=k
 lt:∀a b,u a=A b->b.r<w.heap.z
 EN:s.heap.z<=w.heap.z
 F8:∀c,c<s.heap.z->(∀a b,z a=A b->v.N a≠O->b.r≠c)->w.heap[c]? =s.heap[c]?
 GM:∀a b,u a=A b->g a≠O->b.r<s.heap.z->∃h f,z h=A f/\v.N h≠O/\f.r=b.r
 HP:∀d c e,u.im d c e->c<s.heap.z->(∃H F,z.im H c F)\/∃h f,z h=A f/\v.N h≠O/\f.r=c
 GH:∀a,a.num<v.next.num->z a=O->g a=v.N a
 Aw:Kx s w
def ON(a:G):Prop:=∀b,a.N b≠O->b.num<a.next.num
section
variable{z u l:A0} {v r y:G} {s w p:BH} {g n:Aa->Aj Ce} {q:D}
theorem KB.hr(b:KB z v s u g q w)(c:ON r)(d:∀a,a.num<r.next.num->r.N a=g a):HR u r w where
 E4:=b.E4
 Fw a j e I G H f:=b.Fw a j e I G H (by rw[<-d a (c a (by grind))];omega)
 BB a j e f h:=b.BB a j e (by rw[<-d a (c a (by grind))];omega) h
 C3 E F k x f h:=b.C3 E F k x (by rw[<-d _ (c _ f)];omega) (by rw[<-d _ (c _ h)];omega)
 lt:=b.lt
 Fq:=c
theorem KB.rb(b:KB z v s u g q w)(U:ON r)(V:∀a,a.num<r.next.num->r.N a=g a)(xw:v.next.num<=r.next.num)(e:Fin u r w l y p)(T:∀a,a.num<y.next.num->n a=y.N a)(Y:∀a,y.next.num<=a.num->n a=g a)(xx:y.next.num<=q):KB z v s l n q p:=by
 have xi:∀a d,y.next.num<=a.num->l a=A d->u a=A d:=λa d xf xt=>by
  cases xc:u a with
  |some xs=>rw[e.ext.1 a xs xc]at xt;omega
  |none=>have:=e.Gl a xc (by grind);omega
 have xp:∀a,y.next.num<=a.num->r.N a=O:=λa xf=>by
  cases xc:r.N a with
  |none=>rfl
  |some Q=>have:=U a (by grind);have:=e.up;omega
 exact{
  ext:=b.ext.AQ e.ext
  Gl:=λa h k=>by
   by_cases f:u a=O;.have:=e.Gl a f k;exact⟨by omega,by omega⟩
   .exact b.Gl a h f
  E4:=e.hr.E4
  Fw:=λa Q d xq I xd h xm k xo J=>by
   by_cases f:a.num<y.next.num;.rw[T a f]at h;exact e.hr.Fw a Q d xq I xd h xm k xo J
   .have f:y.next.num<=a.num:=by omega
    rw[Y a f]at h;have S:=xi a d f k;rcases e.HP xq I xd xo (by rw[J];exact b.lt a d S)with⟨xl,xk,xg⟩|⟨F,xe,W,N,xj⟩;.exact b.Fw a Q d xl I xk h xm S xg J
    .have X:g F≠O:=by rw[<-V F (U F N)];omega
     have:=b.C3 F a xe d X (by grind) W S (by omega);subst this;exact N (xp F f)
  BB:=λa Q d h k=>by
   by_cases f:a.num<y.next.num;.rw[T a f]at h;exact e.hr.BB a Q d h k
   .have f:y.next.num<=a.num:=by omega
    rw[Y a f]at h;have S:=xi a d f k;refine(b.BB a Q d h S).Av e.ext (e.F8 d.r (b.lt a d S) λZ xr H x xb=> ?_);have xh:g Z≠O:=by rw[<-V Z (U Z x)];omega
    have:=b.C3 Z a xr d xh (by grind) H S xb;subst this;exact x (xp Z f)
  C3:=λc j E G h k H x J=>by
   have xz:∀c j E G,c.num<y.next.num->y.next.num<=j.num->n c≠O->n j≠O->l c=A E->l j=A G->E.r=G.r->False:=by
    intro c j E G xa R h k H x J;rw[T c xa]at h;rw[Y j R]at k;have xb:=xi j G R x;obtain⟨F,xe,W,N,xj⟩:=e.GM c E H h (by rw[J];exact b.lt j G xb);have X:g F≠O:=by rw[<-V F (U F N)];omega
    have:=b.C3 F j xe G X k W xb (by omega);grind
   by_cases xa:c.num<y.next.num
   .by_cases R:j.num<y.next.num;.rw[T c xa]at h;rw[T j R]at k;exact e.hr.C3 c j E G h k H x J
    grind
   .by_cases R:j.num<y.next.num;.grind
    .have xa:y.next.num<=c.num:=by omega
     have R:y.next.num<=j.num:=by omega
     rw[Y c xa]at h;rw[Y j R]at k;exact b.C3 c j E G h k P P J
  lt:=e.hr.lt
  EN:=AiN b.EN e.EN
  F8:=λI M xu=>by
   rw[e.F8 I (Aik M b.EN) (λa d H x xb=> ?_),b.F8 I M xu];have xh:g a≠O:=by rw[<-V a (U a x)];omega
   obtain⟨_⟩:=b.GM a d H xh (by omega);grind
  GM:=λa d H x M=>by
   by_cases f:a.num<y.next.num
   .rw[T a f]at x;obtain⟨c,E,W,N,xj⟩:=e.GM a d H x (Aik M b.EN);have X:g c≠O:=by rw[<-V c (U c N)];omega
    obtain⟨_⟩:=b.GM c E W X (by omega);grind
   .have f:y.next.num<=a.num:=by omega
    rw[Y a f]at x;exact b.GM a d P x M
  HP:=λQ I xd xv M=>by
   rcases e.HP Q I xd xv (Aik M b.EN)with⟨xl,xk,xg⟩|⟨c,E,W,N,xj⟩;.exact b.HP xl I xk xg M
   .have X:g c≠O:=by rw[<-V c (U c N)];omega
    obtain⟨_⟩:=b.GM c E W X (by omega);grind
  GH:=λa xf xn=>by
   have xy:=e.up;have f:u a=O:=by
    cases xc:u a with
    |none=>rfl
    |some d=>have:=b.Gl a xn (by grind);omega
   rw[T a (by omega),e.GH a (by omega) f,V a (by omega),b.GH a xf xn]
  Aw:=b.Aw.AQ e.Aw}
theorem KB.alloc(b:KB z v s u g q w){c:Aa}{X:Ce}{k:FE}{xg:Obj}(R:u c=O)(xc:g c=A X)(xi:v.next.num<=c.num)(xj:c.num<q)(xm:p.heap=w.heap.push xg)(xk:k.r=w.heap.z)(xf:BR (u.Cf c k) X k p)(xe:Kx w p):KB z v s (u.Cf c k) g q p:=by
 have Q:∀e,e<w.heap.z->p.heap[e]? =w.heap[e]? :=P;have xh:∀a d,a≠c->u.Cf c k a=A d->u a=A d:=λa d xa N=>by rwa[A0.CQ _ _ xa]at N
 have xl:p.heap.z=w.heap.z+1:=by grind
 exact{
  ext:=b.ext.AQ (A0.Lg k R)
  Gl:=λa j f=>by
   by_cases h:a=c;.grind
   .rw[A0.CQ _ _ h]at f;exact b.Gl a j f
  E4:=λG e F x=>(b.E4 G e F x).Av (A0.Lg k R).FH (Q e (b.E4 G e F x).lt)
  Fw:=λa S d G e F j xd f x=>by
   by_cases h:a=c;.subst h;rw[A0.Ia]at f;cases f;have:=(b.E4 G e F x).lt;omega
   .exact b.Fw a S d G e F j xd P x
  BB:=λa S d j f=>by
   by_cases h:a=c;.subst h;rw[xc]at j;cases j;rw[A0.Ia]at f;cases f;exact xf
   .have W:=xh a d h f;exact(b.BB a S d j W).Av (A0.Lg k R) (Q _ (b.lt a d W))
  C3:=λM H T U j f E J Z=>by
   by_cases Y:M=c
   .by_cases V:H=c;.grind
    .exfalso;subst Y;rw[A0.Ia]at E;cases E;have:=b.lt H U P;omega
   .by_cases V:H=c;.exfalso;subst V;rw[A0.Ia]at J;cases J;have:=b.lt M T P;omega
    .exact b.C3 M H T U j f P P Z
  lt:=λa d N=>by
   by_cases h:a=c;.subst h;rw[A0.Ia]at N;grind
   .have:=b.lt a d P;omega
  EN:=by have:=b.EN;omega
  F8:=λe I xb=>by rw[Q e (Aik I b.EN),b.F8 e I xb]
  GM:=λa d E J I=>by
   by_cases h:a=c;.subst h;rw[A0.Ia]at E;cases E;have:=b.EN;omega
   .exact b.GM a d P J I
  HP:=b.HP
  GH:=b.GH
  Aw:=b.Aw.AQ xe}
theorem KB.PN(d:HR z v s)(h:∀a,a.num<v.next.num->g a=v.N a)(xa:∀a,v.next.num<=a.num->a.num<q->z a=O)(xb:∀a,q<=a.num->g a=O){x:BH}(S:x.heap=s.heap)(R:Kx s x):KB z v s z g q x:={
 ext:=.refl _
 Gl:=λa b e=>P
 E4:=λY f j U=>(d.E4 Y f j U).Av (.refl _) (by grind)
 Fw:=λa k c X f j b Q e T=>by rw[h a P]at b;exact d.Fw a k c X f j b Q e T
 BB:=λa k c b e=>by rw[h a P]at b;exact(d.BB a k c b e).Av (.refl _) (by grind)
 C3:=λE F I J G H V W M=>by rw[h E P]at G;rw[h F P]at H;exact d.C3 E F I J G H V W M
 lt:=λa c N=>by rw[S];exact d.lt a c N
 EN:=by grind
 F8:=λf _ _=>by grind
 GM:=λa c b e _=>⟨a,c,b,by grind,B⟩
 HP:=λk f j xc _=>P
 GH:=λa Z _=>P
 Aw:=R}
theorem KB.TQ(b:KB z v s u g q w)(f:ON r)(j:v.next.num<=r.next.num)(k:q=r.next.num)(e:∀a,a.num<r.next.num->r.N a=g a):Fin z v s u r w where
 ext:=b.ext
 Gl a c d:=by have:=b.Gl a c d;omega
 hr:=b.hr f e
 up:=j
 EN:=b.EN
 F8:=b.F8
 GM a h c d:=b.GM a h c (by rw[<-e a (f a d)];omega)
 HP:=b.HP
 GH a c d:=by rw[e a (by omega),b.GH a c d]
 Aw:=b.Aw
end
section
variable(t:D->G)
def UY(b:Aa):D->D->Aj Ce
 |0,a=>if b.num<(t a).next.num then(t a).N b else O
 |c+1,a=>if b.num<(t a).next.num then(t a).N b else UY b c (a+1)
def IN(m a:D)(b:Aa):Aj Ce:=UY t b (m-a) a
variable{t} {m:D}
theorem QJ{a:D}{b:Aa}(d:b.num<(t a).next.num):IN t m a b=(t a).N b:=by
 unfold IN
 cases m-a with
 |zero=>unfold UY;grind
 |succ c=>unfold UY;grind
theorem dj{a:D}{b:Aa}(d:a<m)(c:(t a).next.num<=b.num):IN t m a b=IN t m (a+1) b:=by
 unfold IN;rw[show m-a=(m-(a+1))+1 by omega];conv=>lhs;unfold UY
 grind
theorem AaT{a:Aa}(b:(t m).next.num<=a.num):IN t m m a=O:=by unfold IN;rw[AjK];unfold UY;grind
variable(o:∀i,i<m->(t i).next.num<=(t (i+1)).next.num)
theorem KR(o:∀i,i<m->(t i).next.num<=(t (i+1)).next.num){i:D}:∀{a:D},i<=a->a<=m->(t i).next.num<=(t a).next.num
 |a,b,c=>by
  induction a with
  |zero=>grind
  |succ a d=>grind
theorem kn(o:∀i,i<m->(t i).next.num<=(t (i+1)).next.num){a:D}{b:Aa}:∀{i:D},a<=i->i<=m->(∀c,c<i->a<=c->(t c).next.num<=b.num)->IN t m a b=IN t m i b
 |i,f,h,j=>by
  induction i with
  |zero=>grind
  |succ i d=>
   by_cases e:a=i+1;.grind
   .rw[d (by omega) (by omega) P,dj (by omega) P]
def PY(a b:G):Prop:=b=a\/∃c,b=a.V c
theorem PY.N{a c:G}(d:PY a c){b:Aa}(e:b.num<a.next.num):c.N b=a.N b:=by
 rcases d with rfl|⟨f,rfl⟩;.rfl
 .exact G.Mn _ _ P
theorem PY.Fq{a b:G}(f:PY a b)(h:ON a):ON b:=by
 rcases f with rfl|⟨j,rfl⟩;.omega
 .intro c d;rw[G.HG,Aa.G5];by_cases e:c=a.next;.grind
  .rw[G.Mn _ _ e]at d;have:=h c d;omega
theorem AaS(o:∀i,i<m->(t i).next.num<=(t (i+1)).next.num){a:D}(d:a<m)(e:PY (t a) (t (a+1)))(b:Aa):IN t m a b=IN t m (a+1) b:=by
 by_cases c:b.num<(t a).next.num;.have:=o a d;rw[QJ c,QJ (by omega),e.N c]
 .exact dj d (by omega)
theorem AaU(o:∀i,i<m->(t i).next.num<=(t (i+1)).next.num){c:D}:∀{a:D},c<=a->a<=m->(∀i,c<=i->i<a->PY (t i) (t (i+1)))->ON (t c)->ON (t a)/\∀b,IN t m c b=IN t m a b
 |a,k,x,d,E=>by
  induction a with
  |zero=>grind
  |succ a e=>
   by_cases j:c=a+1;.grind
   .obtain⟨f,h⟩:=e (by omega) (by omega) P;exact⟨(d a (by omega) (by omega)).Fq f,λb=>(h b).t (AaS o (by omega) P b)⟩
end
def Aa.OZ:∀c {a:Aa},Aa.eq c a=L->c=a
 | .h,a,b=>by cases a<;>first|rfl|(cases b;done)
 | .o c,a,b=>by
  cases a with
  |h=>cases b
  |i _=>cases b
  |o a=>rw[Aa.OZ c b]
 | .i c,a,b=>by
  cases a with
  |h=>cases b
  |o _=>cases b
  |i a=>rw[Aa.OZ c b]
mutual
def XX:∀c {b:F},FT c b=L->c=b
 | .b c,b,a=>by cases b<;>simp_all[FT]
 | .i h c,b,a=>by
  cases b<;>simp[FT,Pd,Lb]at a
  grind
 | .s c,b,a=>by
  cases b<;>simp[FT,NS]at a
  grind
 | .p d e,b,a=>by
  cases b<;>simp only[FT,Aie,Aiu]at a
  rw[Aa.OZ _ a.1,Aii a.2]
 | .pn,b,a=>by cases b<;>simp_all[FT]
 | .Z d e i j k,b,a=>by
  cases b<;>simp only[FT,Aie,Aiu]at a
  rw[Aa.OZ _ a.1.1.1.1,Aii a.1.1.1.2,Aii a.1.1.2,Aii a.1.2,Aii a.2]
 | .sn,b,a=>by cases b<;>simp_all[FT]
 | .m c,b,a=>by
  cases b<;>simp only[FT,Aiu]at a
  rw[Aa.OZ _ a]
 | .mn,b,a=>by cases b<;>simp_all[FT]
 | .f d e,b,a=>by
  cases b<;>simp only[FT,Aie,Aiu]at a
  rw[Aa.OZ _ a.1,Nl _ a.2]
 | .fn,b,a=>by cases b<;>simp_all[FT]
 | .S c,b,a=>by
  cases b<;>simp only[FT,Aiu]at a
  rw[Nl _ a]
 | .AC c,b,a=>by
  cases b<;>simp only[FT,Aiu]at a
  rw[Nl _ a]
 | .ic d e,b,a=>by
  cases b<;>simp only[FT,Aie,Aiu]at a
  rw[Aii a.1,XX _ a.2]
 | .LL,b,a=>by cases b<;>simp_all[FT]
 | .pi c,b,a=>by
  cases b<;>simp only[FT,Aiu]at a
  rw[Nl _ a]
 | .CZ c,b,a=>by
  cases b<;>simp only[FT,Aiu]at a
  rw[fI _ a]
 | .mi d e,b,a=>by
  cases b<;>simp only[FT,Aie,Aiu]at a
  rw[Nl _ a.1,Nl _ a.2]
def Nl:∀c {b:C F},Jv c b=L->c=b
 |[],b,a=>by cases b<;>simp_all[Jv]
 |f::c,b,a=>by
  cases b with
  |nil=>simp[Jv]at a
  |cons g b=>simp only[Jv,Aie]at a;rw[XX f a.1,Nl c a.2]
def fI:∀c {b:C (C F)},Qb c b=L->c=b
 |[],b,a=>by cases b<;>simp_all[Qb]
 |f::c,b,a=>by
  cases b with
  |nil=>simp[Qb]at a
  |cons g b=>simp only[Qb,Aie]at a;rw[Nl f a.1,fI c a.2]
end
def fJ{d e:F}(a:RD d e=L):d=e:=by
 unfold RD at a;split at a;.obtain⟨b,c⟩:=Gj a;rw[(Pd _ _).1 b];rw[Lb]at c;grind
 .obtain⟨b,c⟩:=Gj a;rw[Aii b,Aa.OZ _ c]
 .obtain⟨b,a⟩:=Gj a;obtain⟨c,a⟩:=Gj a;obtain⟨f,a⟩:=Gj a;obtain⟨g,a⟩:=Gj a;rw[Aii b,Aii c,Aii f,Aii g,Aa.OZ _ a]
 .rw[Aa.OZ _ a]
 .rw[NS]at a;grind
 .rfl
 .rfl
 .grind
 .exact XX _ a
def aX:∀{c a:C F},Vm c a=L->c=a
 |[],a,b=>by cases a<;>first|rfl|(cases b;done)
 |f::c,a,b=>by
  cases a with
  |nil=>cases b
  |cons g a=>obtain⟨d,e⟩:=Gj b;rw[fJ d,aX e]
def oG{b c:F}(a:Vn b c=L):b=c:=by
 unfold Vn at a;split at a;.rw[aX a]
 .rw[aX a]
 .exact fJ a
def l7{c:Rd}{e:C F}{b:G}{d:F}(a:BV c e b d=L):c.ev e b=A d:=by
 unfold BV at a;split at a;.rename_i g f;rw[f,oG a]
 grind
def l_{d:D}{f:G}:∀{c:C EZ},CY d f c=L->∀a∈c,Nat.testBit d a.Kp=Ac->a.r.ev a.xs f=A a.v
 |[],_,a,b,_=>by grind
 |j::c,h,a,b,g=>by
  obtain⟨e,i⟩:=Gj h;rcases Ait.1 b with rfl|b;.rw[g]at e;exact l7 e
  .exact l_ i a b g
def ma{d:D}{g:Rd}{j:C F}{i:F}:∀{c:C (D×G)},Er d g j i c=L->∀a∈c,Nat.testBit d a.1=Ac->g.ev j a.2=A i
 |[],_,h,b,_=>by grind
 |l::c,a,h,b,f=>by
  obtain⟨e,k⟩:=Gj a;rcases Ait.1 b with rfl|b;.rw[f]at e;exact l7 e
  .exact ma k h b f
def MQ{a:Type}(d:a)(b:D->a):D->a
 |0=>d
 |c+1=>b c
structure XD(q:Bh)(d:C CJ)(o:D)(n:KX)(k:D->Fm)(j:D->G)(l:D->F)(h:D->Ak):Prop where
 U7:∀a e,d[a]? =A e->h a=HJ e.Ew (k a)
 F8:∀a e,d[a]? =A e->k (a+1)=Ej (k a) e.DH (l a)
 TL:∀a e,d[a]? =A e->h a=L->EE q e.op (k a) (j a)=A (l a,j (a+1))
 Ff:∀a e,d[a]? =A e->h a=Ac->l a=Ax/\j (a+1)=j a
 before:∀b a f g c i,b<a->d[b]? =A f->d[a]? =A g->h b=L->h a=L->H7 f.op=L->g.op=.rd c i->HQ c=L->Nat.testBit g.bits (o+b)=Ac->c.ev (A3 (k a) i) (j b)=A (l a)
 aE:∀a b f g c i,a<b->d[b]? =A f->d[a]? =A g->h b=L->h a=L->H7 f.op=L->g.op=.rd c i->HQ c=L->Nat.testBit f.bits (o+a)=Ac->c.ev (A3 (k a) i) (j (b+1))=A (l a)
 Kj:∀m∈n.Kj,∀b f,d[b]? =A f->h b=L->H7 f.op=L->Nat.testBit f.bits m.Kp=Ac->m.r.ev m.xs (j (b+1))=A m.v
 BX:∀p∈n.BX,∀a g c i,d[a]? =A g->h a=L->g.op=.rd c i->HQ c=L->Nat.testBit g.bits p.1=Ac->c.ev (A3 (k a) i) p.2=A (l a)
def mK{J:Bh}{g:CJ}{R:C CJ}{H:D}{x y:KX}{w:Fm}{z E:G}{v:F}{i:Ak}{N:D->Fm}{I:D->G}{T:D->F}{S:D->Ak}(f:XD J R (H+1) y N I T S)(U:N 0=Ej w g.DH v)(M:I 0=E)(xc:i=HJ g.Ew w)(X:i=L->EE J g.op w z=A (v,E))(Q:i=Ac->v=Ax/\E=z)(W:i=L->H7 g.op=L->(H,z)∈y.BX)(V:i=L->∀c d,g.op=.rd c d->HQ c=L->⟨H,c,A3 w d,v⟩∈y.Kj)(xf:∀h∈x.Kj,h∈y.Kj)(Y:i=L->H7 g.op=L->∀h∈x.Kj,Nat.testBit g.bits h.Kp=Ac->h.r.ev h.xs E=A h.v)(xg:∀q∈x.BX,q∈y.BX)(Z:i=L->∀c d,g.op=.rd c d->HQ c=L->∀q∈x.BX,Nat.testBit g.bits q.1=Ac->c.ev (A3 w d) q.2=A v):XD J (g::R) H x (MQ w N) (MQ z I) (MQ v T) (MQ i S)where
 U7 a p b:=by
  cases a with
  |zero=>simp at b;subst b;exact xc
  |succ a=>exact f.U7 a p (by grind)
 F8 a p b:=by
  cases a with
  |zero=>simp at b;subst b;exact U
  |succ a=>exact f.F8 a p (by grind)
 TL a p b s:=by
  cases a with
  |zero=>simp at b;subst b;exact(X s).t (by rw[<-M];rfl)
  |succ a=>exact f.TL a p (by grind) s
 Ff a p b s:=by
  cases a with
  |zero=>exact⟨(Q s).1,M.t (Q s).2⟩
  |succ a=>exact f.Ff a p (by grind) s
 before e a t u c d xd r b k l j m n o:=by
  cases a with
  |zero=>omega
  |succ a=>
   cases e with
   |zero=>simp at r;subst r;exact f.BX _ (W k j) a u c d (by grind) l m n (by omega)
   |succ e=>exact f.before e a t u c d (by omega) (by grind) (by grind) k l j m n (by grind)
 aE a e t u c d xe r b k l j m n o:=by
  cases e with
  |zero=>omega
  |succ e=>
   cases a with
   |zero=>simp at b;subst b;exact f.Kj _ (V l c d m n) e t (by grind) k j (by omega)
   |succ a=>exact f.aE a e t u c d (by omega) (by grind) (by grind) k l j m n (by grind)
 Kj h xb e t r k j o:=by
  cases e with
  |zero=>simp at r;subst r;have:=Y k j h xb o;rw[<-M]at this;exact this
  |succ e=>exact f.Kj h P e t (by grind) k j o
 BX q xa a u c d b l m n o:=by
  cases a with
  |zero=>simp at b;subst b;exact Z l c d m n q xa o
  |succ a=>exact f.BX q P a u c d (by grind) l m n o
def eI{s:Bh}:∀h e a b d,Fy s h e a b d≠.Cw->∃(k:D->Fm)(i:D->G)(r:D->F)(o:D->Ak),k 0=b/\i 0=d/\Fy s h e a b d=.CP (k h.l) (i h.l)/\XD s h e a k i r o
 |[],e,a,b,d,c=>⟨λ_=>b,λ_=>d,λ_=>Ax,λ_=>Ac,B,B,B,by constructor<;>simp⟩
 |g::h,e,a,b,d,c=>by
  rw[Mg]at c⊢
  cases I:HJ g.Ew b with
  |false=>rw[I]at c;obtain⟨k,i,r,o,v,w,x,t⟩:=eI h (e+1) a _ _ c;refine⟨MQ b k,MQ d i,MQ Ax r,MQ Ac o,B,B,x,?_⟩;exact mK t v w P P P P P P P P P
  |true=>
   rw[I]at c
   cases J:EE s g.op b d with
   |none=>rw[J]at c;exact A_ B c
   |some p=>
    obtain⟨q,E⟩:=p
    rw[J]at c
    unfold Ic at c⊢
    simp only[]at c⊢
    cases f:JA e g.bits g.op b d q E a with
    |none=>grind
    |some l=>
     rw[f]at c;obtain⟨k,i,r,o,v,w,x,t⟩:=eI h (e+1) l _ _ c;refine⟨MQ b k,MQ d i,MQ q r,MQ L o,B,B,x,?_⟩;have R:H7 g.op=L->CY g.bits E a.Kj=L/\l=⟨a.Kj,(e,d)::a.BX⟩:=λn=>by
      unfold JA at f;split at f;.rename_i u;rw[u]at n;cases n
      .rename_i u;rw[u]at n;cases n
      grind
     have T:∀j m,g.op=.rd j m->HQ j=L->Er g.bits j (A3 b m) q a.BX=L/\l=⟨⟨e,j,A3 b m,q⟩::a.Kj,a.BX⟩:=λj m H N=>by rw[H]at f;have f:OW e g.bits j (A3 b m) q a=A l:=f;unfold OW at f;grind
     have S:(∀z∈a.Kj,z∈l.Kj)/\(∀p∈a.BX,p∈l.BX):=by
      unfold JA at f;split at f;.unfold OW at f;grind
      .grind
      grind
     exact mK t v w P P P P P
      P (λ_ n z Q y=>l_ P z Q y) P (λ_ j m H N p M y=>ma P p M y)
theorem Fm.P_(f:Fm)(d:Aj Aa)(e:F)(b:Aa):Fm.at (Ej f d e) b=if d=A b then e else Fm.at f b:=by
 cases d with
 |none=>rfl
 |some h=>
  by_cases g:h=b;.subst g;rw[Af B];exact Fm.Vl _ _ _
  .rw[Ad P];exact Fm.Tw _ _ P
def Mf(l:C CJ)(b:D):Aj Aa:=(l[b]?).b (·.DH)
def H5(l:C CJ)(d:Fm)(v:D->F)(t:D->Ak):D->Fm
 |0=>d
 |b+1=>if t b=L then Ej (H5 l d v t b) (Mf l b) (v b)else H5 l d v t b
section
variable{l:C CJ} {y:D->Fm} {v:D->F} {t k:D->Ak}
theorem hX{e:D}{f:Aa}:∀{b:D},e<=b->(∀d,e<=d->d<b->t d=L->Mf l d≠A f)->Fm.at (H5 l (y 0) v t b) f=Fm.at (H5 l (y 0) v t e) f
 |b,E,h=>by
  induction b with
  |zero=>grind
  |succ b j=>
   by_cases g:e=b+1;.subst g;rfl
   .conv=>lhs;unfold H5
    by_cases i:t b=L;.rw[Af i,Fm.P_,Ad P,(j (by omega) (λd a x=>h d a (by omega)))]
    grind
theorem b4(f:∀b,b<l.l->y (b+1)=Ej (y b) (Mf l b) (v b)){e:Aa}:∀{b:D},b<=l.l->(∀d,d<b->Mf l d=A e->t d=L)->Fm.at (H5 l (y 0) v t b) e=Fm.at (y b) e
 |0,_,_=>rfl
 |b+1,x,g=>by
  have j:=b4 f (b:=b) (by omega) (λd a=>g d (by omega));rw[f b (by omega),Fm.P_];conv=>lhs;unfold H5
  by_cases h:t b=L;.rw[Af h,Fm.P_,j]
  grind
theorem hW{g:D}{d:Aa}(j:∀h,h≠g->k h=t h)(E:Mf l g≠A d):∀b,Fm.at (H5 l (y 0) v k b) d=Fm.at (H5 l (y 0) v t b) d
 |0=>rfl
 |b+1=>by
  have F:=hW j E b;unfold H5;by_cases i:b=g
  .subst i;have:∀f e,Fm.at (if f=L then Ej e (Mf l b) (v b)else e) d=Fm.at e d:=λf e=>by
    cases f
    .rfl
    .rw[Af B,Fm.P_,Ad E]
   rw[this,this,F]
  .rw[j b i];by_cases x:t b=L;.rw[Af x,Af x,Fm.P_,Fm.P_,F]
   grind
end
structure Ma(p:Program)(o:Bh)(r:D)(s:Br Oper)(l:C CJ)(y:D->Fm)(u:D->G)(v:D->F)(z:D->Ak):Prop where
 i6:JZ p o
 i8:IX o
 i7:r<=100000
 AX:l.l=s.z
 T:XD o l 0 ⟨[],[]⟩ y u v z
 WP:∀f j h i,f<j->l[f]? =A h->l[j]? =A i->Oq f h i=L
 fe:∀d b,s[d]? =A b->Vg d b=L
 Vz:∀d b,s[d]? =A b->∃e,l[d]? =A e/\T1 s b.guard=A e.Ew/\e.DH=b.dst.map Ar/\(∀g,b.dst=A g->g<r)/\e.op=(Es p b).g .Dd/\e.bits=(Region.before s).getD d 0
structure Inv(r:D)(s:Br Oper)(l:C CJ)(y:D->Fm)(u:D->G)(v:D->F)(z:D->Ak)(m:A0)(n:BH)(t:D->Ak)(c:D)(q:A0)(a:Act)(w:BH):Prop where
 BO:∀b d,t b=L->((Region.before s).getD b 0).testBit d=L->t d=L
 tr:TR q (H5 l (y 0) v t l.l) a
 RA:r<=a.tmps.z
 Tp:a.defers=[]
 cm:c<=l.l
 c1:∀b e,b<c->l[b]? =A e->z b=L->H7 e.op=L->t b=L
 c2:∀b e,c<=b->l[b]? =A e->z b=L->H7 e.op=L->t b=Ac
 c3:c=0\/∃g e,c=g+1/\l[g]? =A e/\z g=L/\H7 e.op=L/\t g=L
 Fq:ON (u c)
 Qq:∀b,b<l.l->t b=Ac->Lu q (u b) (u (b+1))
 UO:∀d,d<c->t d=Ac->∀f:Aa,(u d).next.num<=f.num->f.num<(u (d+1)).next.num->(u c).N f=(u (d+1)).N f
 Ae:KB m (u 0) n q (IN u l.l c) (u l.l).next.num w
section
variable{p:Program} {o:Bh} {r:D} {s:Br Oper} {l:C CJ} {y:D->Fm} {u:D->G} {v:D->F} {z:D->Ak}
variable{m:A0} {n:BH} {t:D->Ak} {c:D} {q:A0} {a:Act} {w:BH}
theorem Ma.Av(d:Ma p o r s l y u v z):∀b,b<l.l->(u b).next.num<=(u (b+1)).next.num:=λb g=>by
 have f:=AiW g
 cases e:z b with
 |true=>exact bP d.i8 (d.T.TL b _ f e)
 |false=>rw[(d.T.Ff b _ f e).2];omega
theorem Ma.a_(j:Ma p o r s l y u v z){d:D}{g:CJ}(x:l[d]? =A g)(G:z d=Ac\/H7 g.op=Ac):PY (u d) (u (d+1)):=by
 cases E:z d with
 |false=>exact .i (j.T.Ff d _ x E).2
 |true=>
  have e:H7 g.op=Ac:=by grind
  have b:=j.T.TL d _ x E
  cases f:g.op with
  |rd h i=>
   rw[f]at b;have b:Ik h (A3 (y d) i) (u d)=_:=b;unfold Ik at b;split at b;.injection b with b;injection b with _ b;exact .i P
   grind
  |al h i=>
   rw[f]at b;have b:DX h (A3 (y d) i) (u d)=_:=b;unfold DX at b;split at b;.rename_i F H _;injection b with b;injection b with _ b;exact .j ⟨F,P⟩
   grind
  |ef _ _=>rw[f]at e;cases e
  |call _ _=>rw[f]at e;cases e
  |Dd=>rw[f]at e;cases e
theorem Inv.a_(f:Ma p o r s l y u v z)(g:Inv r s l y u v z m n t c q a w){d:D}(j:d<=l.l)(x:∀b e,c<=b->b<d->l[b]? =A e->z b=L->H7 e.op=L->False):∀b,c<=b->b<d->PY (u b) (u (b+1)):=λb h i=>by refine f.a_ (P:l[b]? =A l[b]) ?_;grind
theorem Inv.U8(g:Ma p o r s l y u v z)(f:Inv r s l y u v z m n t c q a w){d:D}(F:c<=d)(h:d<=l.l)(H:∀e E,c<=e->e<d->l[e]? =A E->z e=L->H7 E.op=L->False):ON (u d)/\(∀b,IN u l.l c b=IN u l.l d b)/\(∀b,b.num<(u d).next.num->(u d).N b=IN u l.l c b)/\HR q (u d) w:=by
 obtain⟨i,j⟩:=AaU g.Av F h (f.a_ g h H) f.Fq;have x:∀b,b.num<(u d).next.num->(u d).N b=IN u l.l c b:=λb G=>by rw[j b,QJ G]
 exact⟨i,j,x,f.Ae.hr i x⟩
theorem Inv.Ad0(j:Ma p o r s l y u v z)(P:Inv r s l y u v z m n t c q a w){f:D}{E:CJ}(x:l[f]? =A E)(S:t f=Ac)(V:∀b,Nat.testBit E.bits b=L->t b=L)(U:∀b H,l[b]? =A H->t b=L->Nat.testBit H.bits f=Ac){h:Aa}(G:h∈Zh E):Fm.at (H5 l (y 0) v t l.l) h=Fm.at (y f) h:=by
 have W:=(Aid.1 x).1;rw[hX (e:=f) (by omega),b4 (λN M=>by have F:=AiW M;rw[j.T.F8 N _ F];unfold Mf;rw[F];rfl) (by omega)]
 .intro b J d;have g:l[b]? =A l[b]:=AiW (by omega);unfold Mf at d;rw[g]at d;have d:l[b].DH=A h:=d;have:=j.WP b f _ _ J g x;unfold Oq at this;rw[Ajt]at this;rcases this with e|e;.grind
  .rw[d]at e;simp only[]at e;rw[cG.2 G]at e;grind
 .intro b R I T d;by_cases Q:b=f;.grind
  .have g:=AiW I;unfold Mf at d;rw[g]at d;have d:l[b].DH=A h:=d;have:=j.WP f b _ _ (by omega) x g;unfold Oq at this;rw[Ajt]at this;rcases this with e|e;.grind
   .rw[d]at e;simp only[]at e;rw[cG.2 G]at e;grind
def add(t:D->Ak)(d:D):D->Ak:=λb=>t b||b==d
theorem OQ(t:D->Ak)(b:D):add t b b=L:=by simp[add]
theorem MN(t:D->Ak){d b:D}(e:b≠d):add t d b=t b:=by simp[add,e]
theorem fd(i:Inv r s l y u v z m n t c q a w){e:D}(j:∀b,((Region.before s).getD e 0).testBit b=L->t b=L):∀d b,add t e d=L->((Region.before s).getD d 0).testBit b=L->add t e b=L:=λd b h g=>by
 by_cases f:d=e;.subst f;simp[add,(j b g)]
 .rw[MN t f]at h;simp[add,(i.BO d b h g)]
theorem Inv.AM(G:Ma p o r s l y u v z)(e:Inv r s l y u v z m n t c q a w){b:D}{d:Oper}{h:CJ}(M:l[b]? =A h)(X:t b=Ac)(R:h.DH=d.dst.map Ar)(Q:∀f,d.dst=A f->f<r)(Y:∀g d,l[g]? =A d->t g=L->Nat.testBit d.bits b=Ac){F:A0}(N:q.le F){j:Bl}(W:VR F (v b) j):TR F (H5 l (y 0) v (add t b) l.l) (a.put d.dst j)/\r<=(a.put d.dst j).tmps.z/\(a.put d.dst j).defers=[]:=by
 have xa:=(Aid.1 M).1;have Z:Mf l b=h.DH:=by unfold Mf;grind
 have U:TR F (Ej (H5 l (y 0) v t l.l) h.DH (v b)) (a.put d.dst j):=by
  rw[R]
  cases T:d.dst with
  |none=>exact e.tr.Av N
  |some f=>have x:=Q f T;have I:=G.i7;exact(e.tr.Av N).AM (Aik x e.RA) (Aik x (by omega)) W
 refine⟨λE V=> ?_,?_,?_⟩
 .have:=U E V;rw[Fm.P_]at this;by_cases H:h.DH=A (Ar E)
  .rw[Af H]at this;have x:Fm.at (H5 l (y 0) v (add t b) l.l) (Ar E)=v b:=by
    rw[hX (e:=b+1) (by omega)];.unfold H5;rw[Af (OQ t b),Fm.P_,Af (by grind)]
    .intro g x P I J;rw[MN t (by omega)]at I;have J:l[g].DH=A (Ar E):=by unfold Mf at J;grind
     have:=G.WP b g _ _ (by omega) M (AiW P);unfold Oq at this;grind
   grind
  .rw[Ad H]at this;rw[hW (λg S=>MN t S) (by grind)];omega
 .cases d.dst with
  |none=>exact e.RA
  |some f=>simpa[Act.put]using e.RA
 .cases d.dst with
  |none=>exact e.Tp
  |some f=>simpa[Act.put]using e.Tp
theorem Inv.C0(P:Ma p o r s l y u v z)(e:Inv r s l y u v z m n t c q a w){d:D}{S:CJ}(X:l[d]? =A S)(xb:t d=Ac)(V:∀b,((Region.before s).getD d 0).testBit b=L->t b=L)(xc:z d=Ac\/H7 S.op=Ac){I:A0}{J:Act}{T:BH}(N:TR I (H5 l (y 0) v (add t d) l.l) J/\r<=J.tmps.z/\J.defers=[])(W:∀f,q f=O->I f≠O->(u d).next.num<=f.num/\f.num<(u (d+1)).next.num)(Y:KB m (u 0) n I (IN u l.l c) (u l.l).next.num T):Inv r s l y u v z m n (add t d) c I J T where
 BO:=fd e V
 tr:=N.1
 RA:=N.2.1
 Tp:=N.2.2
 cm:=e.cm
 c1 b H h x F G:=by simp[add,(e.c1 b H h x F G)]
 c2 b H h x F G:=by
  by_cases g:b=d;.grind
  .rw[MN t g];exact e.c2 b H h x F G
 c3:=by
  rcases e.c3 with Q|⟨g,H,h,x,F,G,U⟩;.omega
  .exact .j ⟨g,H,h,x,F,G,by simp[add,U]⟩
 Fq:=e.Fq
 Qq b M E f h x:=by
  have R:b≠d:=λg=>by subst g;rw[OQ]at E;grind
  rw[MN t R]at E
  cases Z:I f with
  |none=>rfl
  |some xa=>
   have F:=W f (e.Qq b M E f h x) (by simp[Z]);have xd:=(Aid.1 X).1;rcases Nat.lt_or_gt_of_ne R with Q|Q;.have:=KR P.Av (i:=b+1) (a:=d) (by omega) (by omega);omega
   .have:=KR P.Av (i:=d+1) (a:=b) (by omega) (by omega);omega
 UO b M E:=by rw[MN t (λg=>by subst g;rw[OQ]at E;grind:b≠d)]at E;exact e.UO b M E
 Ae:=Y
theorem Inv.run(g:Ma p o r s l y u v z)(e:Inv r s l y u v z m n t c q a w){b:D}{xj:Oper}(xF:s[b]? =A xj)(U:t b=Ac)(x9:∀f∈xj.after.l,Region.binds .any f=L->t f.on=L){xB:Act->BH->Prop}{xK:Exit->Act->BH->Prop}(xt:∀x0 xA xL xk,Inv r s l y u v z m n (add t b) x0 xA xL xk->xB xL xk):wpOp p s xK b xB a w:=by
 obtain⟨Q,I,x3,xr,xs,xN,xO⟩:=g.Vz b xj xF
 have xo:=(Aid.1 I).1
 have xh:∀d,((Region.before s).getD b 0).testBit d=L->t d=L:=λd xf=>by
  obtain⟨f,E,h,F⟩:=oE xF xf;rcases F with F|F;.grind
  .exact e.BO _ _ (x9 f E h) F
 have xb:∀d xx,l[d]? =A xx->t d=L->Nat.testBit xx.bits b=Ac:=λd xx xf W=>by
  have yr:=(Aid.1 xf).1
  obtain⟨yv,xV,_,_,_,_,yj⟩:=g.Vz d (s[d]'(by have:=g.AX;omega)) P
  rw[xf]at xV;cases xV
  cases x:Nat.testBit xx.bits b with
  |false=>rfl
  |true=>rw[yj]at x;have:=e.BO d b W x;grind
 have xH:=λ{xy:Aa}(xg:xy∈Zh Q)=>e.Ad0 g I U P xb xg
 unfold wpOp
 rw[xF]
 simp only[]
 rw[nb e.tr x3,Afc (λxy xg=>xH (Ajl _ xg)),<-g.T.U7 b Q I]
 cases xi:z b with
 |false=>refine xt c q _ w (e.C0 g I U xh P (e.AM g I U xr xs xb (.refl _) (by rw[(g.T.Ff b Q I xi).1];exact S_ q)) P e.Ae)
 |true=>
  refine .i ?_
  have J:=g.T.TL b Q I xi
  have xm:Es p xj=A Q.op:=by
   cases x6:Es p xj with
   |none=>rw[x6]at xN;rw[xN]at J;cases J
   |some x=>grind
  have xC:∀T,EE o Q.op (H5 l (y 0) v t l.l) T=EE o Q.op (y b) T:=λT=>rO λxy xg=>xH (Ajb _ xg)
  have xM:H7 Q.op=L->xj.wp p a w xB xK:=λxD=>by
   have xu:c<=b:=by
    rcases AiS b c with H|H;.have:=e.c1 b Q H I xi xD;grind
    omega
   have x8:∀d xd,c<=d->d<b->l[d]? =A xd->z d=L->H7 xd.op=L->False:=λd xd E h F S N=>by
    have Z:=e.c2 d xd E F S N;have:=g.WP d b xd Q h F I;unfold Oq at this;rw[N,xD,Ajt]at this;rcases this with H|H;.rw[xO]at H;rw[xh d H]at Z;cases Z
    .simp at H
   obtain⟨xJ,xW,xz,yk⟩:=e.U8 g xu (by omega) x8;refine kV g.i6 e.tr yk xm (by rw[xC];exact J) (e.Qq b xo U) λxX xk xA xp xc=> ?_;have xI:=e.AM g I U xr xs xb xc.ext xp;refine xt (b+1) xA _ xk {
    BO:=fd e xh
    tr:=xI.1
    RA:=xI.2.1
    Tp:=xI.2.2
    cm:=xo
    c1:=λd xd E h F S=>by
     by_cases f:d=b;.subst f;exact OQ t d
     .by_cases x1:d<c;.simp[add,(e.c1 d xd x1 h F S)]
      grind
    c2:=λd xd E h F S=>by rw[MN t (by omega)];exact e.c2 d xd (by omega) h F S
    c3:=.j ⟨b,Q,B,I,xi,xD,OQ t b⟩
    Fq:=xc.hr.Fq
    Qq:=λd xf W M E h=>by
     have xv:d≠b:=λf=>by subst f;rw[OQ]at W;grind
     rw[MN t xv]at W
     cases x:xA M with
     |none=>rfl
     |some xq=>
      have F:=xc.Gl M (e.Qq d xf W M E h) (by simp[x]);rcases Nat.lt_or_gt_of_ne xv with H|H;.have:=KR g.Av (i:=d+1) (a:=b) (by omega) (by omega);omega
      .have:=KR g.Av (i:=b+1) (a:=d) (by omega) (by omega);omega
    UO:=λd xf W M E h=>by
     have xv:d≠b:=λf=>by subst f;rw[OQ]at W;cases W
     rw[MN t xv]at W;have yt:=KR g.Av (i:=d+1) (a:=b) (by omega) (by omega);rw[xc.GH M (by omega) (e.Qq d (by omega) W M E h),xz M (by omega)];by_cases f:d<c;.have:=KR g.Av (i:=d+1) (by omega) e.cm;rw[QJ (by omega),e.UO d f W M E h]
     .obtain⟨_,_,yl,_⟩:=e.U8 g (d:=d+1) (by omega) (by omega) P;rw[yl M h]
    Ae:=e.Ae.rb xJ xz (KR g.Av (by omega) (by omega)) xc (λM xb=>QJ xb) (λM xb=>by have:=g.Av b xo;rw[xW M,dj xo (by omega)]) (KR g.Av (by omega) (by omega))}
  cases X:Q.op with
  |Dd=>rw[X]at J;cases J
  |rd xe V=>
   rw[X]at J xm;obtain⟨T,x4,x5⟩:∃T,HR q T w/\xe.ev (A3 (y b) V) T=A (v b):=by
    have yb:Ik xe (A3 (y b) V) (u b)=A (v b,u (b+1)):=J
    have xn:xe.ev (A3 (y b) V) (u b)=A (v b):=by unfold Ik at yb;grind
    have xQ:=(e.U8 g Om e.cm Om).2.2.2
    cases xG:HQ xe with
    |false=>exact⟨u c,xQ,by rw[Ac6 xG _ _ (u b)];exact xn⟩
    |true=>
     by_cases xu:b<c
     ·
      rcases e.c3 with H|⟨f,xa,E,h,F,S,N⟩;.omega
      .have yq:b≠f:=λH=>by subst H;rw[U]at N;cases N
       subst E;exact⟨_,xQ,g.T.aE b f xa Q xe V (by omega) h I F xi S X xG (by rw[Aix];exact xb f xa h N)⟩
     ·
      have x2:∀R,c<=R->R<=b->(∀x Y,c<=x->x<R->l[x]? =A Y->z x=L->H7 Y.op=L->False)\/∃f xa,c<=f/\f<R/\l[f]? =A xa/\z f=L/\H7 xa.op=L/\(∀x Y,c<=x->x<f->l[x]? =A Y->z x=L->H7 Y.op=L->False):=by
       intro R
       induction R with
       |zero=>intro E h;exact .i λx Y F S=>by omega
       |succ R yd=>
        intro E h;by_cases yp:c=R+1;.exact .i λx Y F S=>by omega
        .rcases yd (by omega) (by omega)with H|⟨f,xa,xJ,xW,xz⟩
         .have xU:l[R]? =A l[R]:=AiW (by omega)
          cases xS:z R with
          |false=>
           exact .i λx Y F S N Z xl=>by
            by_cases f:x=R;.subst f;rw[xS]at Z;cases Z
            .exact H x Y F (by omega) N Z xl
          |true=>
           cases xT:H7 l[R].op with
           |false=>
            exact .i λx Y F S N Z xl=>by
             by_cases f:x=R;.subst f;rw[xU]at N;cases N;rw[xT]at xl;cases xl
             .exact H x Y F (by omega) N Z xl
           |true=>exact .j ⟨R,_,by omega,by omega,xU,xS,xT,H⟩
         .exact .j ⟨f,xa,xJ,by omega,xz⟩
      rcases x2 b (by omega) (C6 _)with H|⟨f,xa,E,h,F,S,N,Z⟩;.exact⟨u b,(e.U8 g (by omega) (by omega) H).2.2.2,xn⟩
      .have xP:=e.c2 f xa E F S N
       refine⟨u f,(e.U8 g E (by omega) Z).2.2.2,g.T.before f b xa Q xe V h F I S xi N X xG ?_⟩
       rw[Aix]
       cases x:Nat.testBit Q.bits f with
       |false=>rfl
       |true=>rw[xO]at x;rw[xh f x]at xP;cases xP
   have xw:EE o (.rd xe V) (H5 l (y 0) v t l.l) T=A (v b,T):=by rw[X]at xC;rw[xC];show Ik xe (A3 (y b) V) T=_;unfold Ik;rw[x5]
   obtain⟨xX,xp,xc⟩:=lA e.tr x4 xm (by
    have:Ik xe (A3 (H5 l (y 0) v t l.l) V) T=A (v b,T):=xw;unfold Ik at this;split at this;.rename_i ym ya;rw[ya];injection this with this;injection this with E _;rw[E]
    .cases this)
   unfold Oper.wp;rw[xp];exact xt c q _ w (e.C0 g I U xh (.j (by rw[X];rfl)) (e.AM g I U xr xs xb (.refl _) xc) (λM E h=>A_ E h) e.Ae)
  |al xZ V=>
   rw[X]at J xm;have J:DX xZ (A3 (y b) V) (u b)=A (v b,u (b+1)):=J;unfold DX at J;split at J
   .rename_i xY ym xn;injection J with J;injection J with yc xw;rw[yc]at xn;obtain⟨xX,xk,xq,yw,xp,xc,ye,yf,yg⟩:=fh e.tr xm (by rw[(RQ λxy xg=>xH (Ajb _ (by rw[X];exact xg)))];exact xn);have yu:(u (b+1)).next.num=(u b).next.num+1:=by rw[<-xw,G.HG,Aa.G5]
    have xE:=e.Qq b xo U _ (C6 _) (by omega);have xR:(u (b+1)).N (u b).next=A xY:=by rw[<-xw];exact G.YN _ _
    have x7:IN u l.l c (u b).next=A xY:=by
     by_cases xu:b<c;.have:=KR g.Av (i:=b+1) (by omega) e.cm;rw[QJ (by omega),e.UO b xu U _ (C6 _) (by omega),xR]
     .rw[kn g.Av (i:=b+1) (by omega) (by omega) (λd E h=>KR g.Av (by omega) (by omega)),QJ (by omega),xR]
    obtain⟨yh,yi⟩:=yg (q.Cf (u b).next xq) (A0.Lg xq xE) (A0.Ia _ _ _);have ys:=KR g.Av (i:=b+1) (by omega) (C6 _);unfold Oper.wp;rw[xp];refine xt c _ _ xk (e.C0 g I U xh (.j (by rw[X];rfl)) (e.AM g I U xr xs xb (A0.Lg xq xE) yh) (λM E h=> ?_) (KB.alloc e.Ae xE x7 (KR g.Av (by omega) (by omega)) (by omega) xc yf yi ye));by_cases f:M=(u b).next
    .subst f;exact⟨C6 _,by omega⟩
    .rw[A0.CQ _ _ f]at h;exact A_ E h
   .cases J
  |ef yn V=>exact xM (by rw[X];rfl)
  |call yo V=>exact xM (by rw[X];rfl)
end
def Hu(a:D->Ak):D->D
 |0=>0
 |b+1=>Hu a b+if a b=L then 0 else 1
theorem gs{c d:D->Ak}:∀{b:D},(∀a,a<b->d a=c a)->Hu d b=Hu c b
 |0,_=>rfl
 |b+1,e=>by unfold Hu;rw[gs λa f=>e a (by omega),e b (by omega)]
theorem gr{b:D->Ak}{c:D}(d:b c=Ac):∀{a:D},c<a->Hu (add b c) a+1=Hu b a
 |a+1,f=>by
  unfold Hu;by_cases e:c=a;.subst e;rw[OQ,d,gs λh g=>MN b (by omega)];simp
  .rw[MN b Om];have:=gr d (a:=a) (by omega);omega
theorem gt{c:D->Ak}:∀{b:D},Hu c b=0->∀a,a<b->c a=L
 |b+1,d,a,f=>by
  unfold Hu at d;by_cases e:a=b;.grind
  .exact gt (b:=b) (by omega) a (by omega)
section
variable{u:Program} {z:Bh} {v:D} {t:Br Oper} {l:C CJ} {y:D->Fm} {w:D->G} {s:D->F} {r:D->Ak}
variable{p:A0} {q:BH}
theorem hV:∀a,H5 l (y 0) s (λ_=>Ac) a=y 0
 |0=>rfl
 |a+1=>by unfold H5;simp[hV a]
theorem eh{c:Br Ak}{a:D}:a∈Region.ready .any t c↔a<t.z/\c.getD a L=Ac/\∃d,t[a]? =A d/\∀b∈d.after.l,Region.binds .any b=L->c.getD b.on Ac=L:=by
 unfold Region.ready;rw[Ajy,AiT,Aie,Akn];refine and_congr_right λf=>and_congr_right λi=> ?_;rw[AjW f];simp only[Option.map_some,Aiz];constructor;.intro e;refine⟨_,B,λb h g=> ?_⟩;rw[Array.all_eq_true_iff_forall_mem]at e;grind
 grind
theorem aF(g:Ma u z v t l y w s r){e:Br Ak}{f:D->Ak}(k:e.z=t.z)(i:∀a,e.getD a Ac=f a)(j:Region.ready .any t e=[]):∀c a,a<c->a<t.z->f a=L
 |c+1,a,E,d=>by
  by_cases b:a<c;.exact aF g k i j c a b d
  .cases F:f a with
   |true=>rfl
   |false=>
    exfalso;have:a∈Region.ready .any t e:=eh.2 ⟨d,by
     grind,t[a],AjW d,λb o n=>by
     have h:=g.fe a _ (AjW d);unfold Vg at h;rw[AiP]at h;have m:=h b o;rw[n]at m;have x:b.on<a:=by
      have:Nat.blt b.on a=L:=by grind
      exact Aim this
     rw[i];exact aF g k i j c b.on (by omega) (by omega)⟩
    grind
theorem Aff(g:Ma u z v t l y w s r):∀j {d:Br Ak}{b:D->Ak}{i:D}{h:A0}{e:Act}{f:BH},d.z=t.z->(∀a,d.getD a Ac=b a)->Hu b t.z<=j->Inv v t l y w s r p q b i h e f->wpAny u .any t (Lw v p (w 0) q (.CP (y l.l) (w l.l))) j d e f:=by
 have S:∀{d:Br Ak}{b:D->Ak}{i:D}{h:A0}{e:Act}{f:BH},d.z=t.z->(∀a,d.getD a Ac=b a)->(∀a,a<t.z->b a=L)->Inv v t l y w s r p q b i h e f->Lw v p (w 0) q (.CP (y l.l) (w l.l)) .normal e f:=by
  intro d b i h e f m k F c;obtain⟨xa,xh,xb,xc⟩:=c.U8 g c.cm Om (λa Q o T E I U=>by have:=c.c2 a Q o E I U;rw[F a (by rw[<-g.AX];omega)]at this;grind)
  refine⟨B,h,⟨λxd X=> ?_,xc,c.RA,c.Tp⟩,c.Ae.TQ xa (KR g.Av Om (C6 _)) B xb⟩;have:=c.tr xd X;rwa[b4 (λZ W=>by have M:=AiW W;rw[g.T.F8 Z _ M];unfold Mf;rw[M];rfl) Om (λx xg _=>F x (by rw[<-g.AX];omega))]at this
 intro j
 induction j with
 |zero=>
  intro d b i h e f m k V c
  have F:=gt (c:=b) (b:=t.z) (by omega)
  refine⟨?_,P⟩
  cases N:Region.ready .any t d with
  |nil=>rfl
  |cons a xi=>
   exfalso;have:a∈Region.ready .any t d:=by grind
   obtain⟨_⟩:=eh.1 this;grind
 |succ j Y=>
  intro d b i h e f m k V c;refine⟨λN=>S m k (λa G=>aF g m k N (a+1) a Om G) c,λa G=> ?_⟩;obtain⟨o,T,Q,E,I⟩:=eh.1 G;have J:b a=Ac:=by grind
  refine c.run g E J P λxf xk xe xj R=> ?_;refine Y (by grind) (λx=> ?_) (by have:=gr J o;omega) R;by_cases H:x=a;.subst H;rw[OQ];simp[m,o]
  .rw[MN b H,<-k x];simp only[Ajs];grind
end
theorem gv{u:Program}{v:D}{t:Br Oper}:∀l a,(Md u v t l a).l=l.l
 |[],a=>rfl
 |e::c,a=>by obtain⟨d,b,_⟩:=bi;rw[b];simp[gv c]
theorem gu{u:Program}{v:D}{t:Br Oper}:∀l a (d:D)(b:Oper),l[d]? =A b->∃c,(Md u v t l a)[d]? =A c/\((c.Ew=O/\c.op=.Dd)\/(T1 t b.guard=A c.Ew/\c.DH=b.dst.map Ar/\(∀f,b.dst=A f->f<v)/\c.op=(Es u b).g .Dd/\c.bits=(a[d]?).g 0))
 |[],a,d,b,e=>by grind
 |M::h,a,0,b,e=>by
  simp at e;subst e;have F:a.headD 0=(a[0]?).g 0:=by cases a<;>rfl
  refine⟨_,B,?_⟩;split
  .rename_i P H;split
   .rename_i f G;split;.rename_i I;exact .j ⟨H,by grind,λN g=>by rw[G]at g;cases g;exact Aim I,B,F⟩
    grind
   grind
  grind
 |M::h,a,d+1,b,e=>by obtain⟨c,o,_⟩:=bi;rw[o];obtain⟨J,x,E⟩:=gu h a.tail d b e;refine⟨J,x,E.imp id λ⟨i,j,k,m,n⟩=>⟨i,j,k,m,?_⟩⟩;rw[n];cases a<;>simp
theorem gL{u:Program}(X:u.follows .mixedOrders=L)(z:Bh)(U:JZ u z)(Z:IX z):Xz u z:=by
 intro v xe t xj xk xb xc xi xg Y V d H xd E;obtain⟨y,w,s,r,M,N,o,g⟩:=eI _ _ _ _ _ (by rw[H];omega);rw[H]at o;subst o;generalize G:Md u v t t.l (Region.before t).l=l at*;have W:l.l=t.z:=by rw[<-G,gv];simp
 obtain⟨xa,xh⟩:=q2 V (by omega);have c:Ma u z v t l y w s r:={
  i6:=U
  i8:=Z
  i7:=Y
  AX:=W
  T:=g
  WP:=xa
  fe:=λa n F=>P
  Vz:=λa n F=>by
   obtain⟨m,b,k⟩:=gu t.l (Region.before t).l a n (by grind);rw[G]at b;refine⟨m,b,?_⟩;rcases k with⟨i,j⟩|⟨i,j,Q,R,S⟩;.exfalso;have I:=g.U7 a m b;rw[i]at I;have:=g.TL a m b I;rw[j]at this;cases this
   .refine⟨i,j,Q,R,?_⟩;rw[S,Ajs,Akf]}
 subst M N;refine wp_region_any X (Aff c t.z (by simp) (λa=> ?_) ?_ {
  BO:=λa J x _=>by omega
  tr:=by rw[hV];exact d.tr
  RA:=d.EN
  Tp:=d.TK
  cm:=AiO _
  c1:=λa n x=>Om
  c2:=λ_ _ _ _ _ _=>B
  c3:=.i B
  Fq:=d.hr.Fq
  Qq:=λa F _ h b k=>E h (AiN (KR c.Av Om (by omega)) b) (Aik k (KR c.Av (by omega) Om))
  UO:=λJ x=>Om
  Ae:=KB.PN d.hr (λh f=>QJ f) (E) (λh f=>by rw[kn c.Av (AiO _) (C6 _) (λJ b _=>AiN (KR c.Av (by omega) (C6 _)) f),AaT f]) B ⟨B,B,B,λ_=>B⟩})
 .simp[Array.getD]
 .exact(λe=>by
  induction e with
  |zero=>exact C6 _
  |succ e xf=>unfold Hu;grind:∀e,Hu (λ_=>Ac) e<=e) _
def G.Az:G:=⟨.nil,.h⟩
theorem G.Mm(a:Aa):G.Az.N a=O:=rfl
def Iv(u:Aa->C F->Aj F)(f:Bh):Bh:=λd e g=>match F9 g e with
 |some (b,c)=>match u d b with
  |some a=>A (a,c)
  |none=>match f d b G.Az with
   |some (a,h)=>match Dq h a with
    |some (i,_)=>A (i,c)
    |none=>O
   |none=>O
 |none=>O
def P6(t:Program)(e:D)(h:C F)(k:F):Prop:=
 (∃a,t.funcs[e]? =A a/\a.body.isNone=Ac/\(a.name== "runtime.NumGoroutine")=Ac)/\
 ∀(c:A0)(b:BH)(d:Br Bl),BJ c.FH h d.l->HR c.FH G.Az b->
  Calls t e d b λi l=>∃f g j,i=.returned f/\VR g.FH k f/\Fin c.FH G.Az b g j l
def Ru(t:Program)(u:Aa->C F->Aj F):Prop:=∀a b c,a<1000000->u (Ar a) b=A c->P6 t a b c
theorem ll(t:Program):Ru t (λ_ _=>O):=λ_ _ _ _ a=>by grind
section
variable{t:Program}
theorem HR.FH{e:A0}{f:G}{d:BH}(h:HR e f d):HR e.FH G.Az d where
 E4:=h.E4
 Fw b k c q o p a:=by rw[G.Mm]at a;grind
 BB b k c a:=by rw[G.Mm]at a;grind
 C3 g n l m i:=A_ (G.Mm g) i
 lt b c j:=by cases j
 Fq b a:=A_ (G.Mm b) a
theorem Fin.vm{g n:A0}{o H:G}{l y:BH}(e:HR g o l)(h:Fin g.FH G.Az l n H y):Fin g o l ⟨g.m,n.im⟩ o y:=by
 have J:=λa j=>h.F8 a j λb c f=>by cases f
 have x:g.le ⟨g.m,n.im⟩:=⟨P,h.ext.2⟩;have M:∀k a i,n.im k a i->a<l.heap.z->∃r q,g.im r a q:=λk a i p j=>by
  rcases h.HP k a i p j with E|⟨Q,N,z,_⟩;.exact E
  .cases z
 exact{
  ext:=x
  Gl:=λb R S=>P
  hr:={
   E4:=h.hr.E4
   Fw:=λb m c k a i f I d p s=>by obtain⟨r,q,F⟩:=M k a i p (by rw[s];exact e.lt b c d);exact e.Fw b m c r a q f I d F s
   BB:=λb m c f d=>(e.BB b m c f d).Av x (J _ (e.lt b c d))
   C3:=e.C3
   lt:=λb c d=>Aik (e.lt b c d) P
   Fq:=e.Fq}
  up:=C6 _
  EN:=h.EN
  F8:=λa j _=>P
  GM:=λb c d f _=>⟨b,c,d,f,B⟩
  HP:=λm a i T j=>P
  GH:=λ_ _ _=>B
  Aw:=h.Aw}
theorem A0.oD(c:Aa->Aj FE)(b:A0):b.FH.le ⟨c,b.im⟩:=⟨λ_ _ a=>(by cases a),λ_ _ _ a=>a⟩
theorem mN{c:Bh}(o:JZ t c){a:D}{b:C F}{h i:F}{e f:G}(p:a<1000000)(d:c (Ar a) b G.Az=A (h,e))(k:Dq e h=A (i,f)):P6 t a b i:=by
 obtain⟨r,s⟩:=o a b _ _ _ p d
 refine⟨r,λE z j q n=>(s E.FH z j q n (λ_ _ _=>B)).mono ?_⟩
 rintro d J ⟨y,M,rfl,x,g⟩
 obtain⟨H,l,I,m⟩:=sL (v:=t) g.hr x k
 exact⟨y,H,f,B,m,g.AQ l⟩
theorem Acz{u:Aa->C F->Aj F}{e:Bh}(o:Ru t u)(n:JZ t e){b:D}{d c:C F}{f h g:G}{j:F}(i:b<1000000)(k:F9 f d=A (c,h))(a:Iv u e (Ar b) d f=A (j,g)):P6 t b c j/\g=h:=by
 unfold Iv at a;rw[k]at a;simp only[]at a;split at a
 .rename_i q p;cases a
  exact⟨o b c _ i p,B⟩
 .split at a;case h_2=>grind
  rename_i q r l;split at a;case h_2=>grind
  rename_i x s m;cases a
  exact⟨mN n i l m,B⟩
theorem Acy{u:Aa->C F->Aj F}{e:Bh}(q:Ru t u)(o:JZ t e):JZ t (Iv u e):=by
 intro J j m M G p a
 obtain⟨d,g,f⟩:∃d g,F9 m j=A (d,g):=by unfold Iv at a;grind
 obtain⟨h,rfl⟩:=Acz q o p f a
 refine⟨h.1,λQ z k r n I=> ?_⟩
 obtain⟨c,b,E,l⟩:=sO (v:=t) n r f
 refine(h.2 c z k l b.hr.FH).mono ?_
 rintro a N ⟨y,i,H,rfl,s,x⟩
 exact⟨y,⟨c.m,i.im⟩,B,s.Av (A0.oD c.m i),b.AQ (Fin.vm b.hr x)⟩
theorem AcA{u:Aa->C F->Aj F}{b:Bh}:IX (Iv u b):=by
 intro f d g j h a;unfold Iv at a;split at a;case h_2=>grind
 rename_i e i c;have:=(sN c).1.next
 grind
def Ht(v:Aa->Aj GY)(a:D)(c:Bh):Bh:=λd b f=>match v d with
 |none=>O
 |some e=>Nn a c e b f
def JV(u:Aa->C F->Aj F)(w:Aa->Ak)(v:Aa->Aj GY)(b:D)(d:Bh):Bh:=λa c e=>
 An (w a) (Ht v b d a c e) (Iv u (Ht v b d) a c e)
def RG(u:Aa->C F->Aj F)(w:Aa->Ak)(v:Aa->Aj GY)(a:D):D->Bh
 |0=>λ_ _ _=>O
 |b+1=>JV u w v a (RG u w v a b)
variable{u:Aa->C F->Aj F} {w:Aa->Ak} {v:Aa->Aj GY}
theorem qo{c:D}{b:Bh}(d:IX b):IX (Ht v c b):=by
 intro f e d h g a;unfold Ht at a;split at a;.grind
 .exact f7 ‹_› a
theorem AeI{d:D}{c:Bh}(f:IX c):IX (JV u w v d c):=by
 intro e g f i h a
 unfold JV at a
 cases b:w e with
 |true=>rw[b]at a;exact qo ‹_› _ _ _ _ _ a
 |false=>rw[b]at a;exact AcA _ _ _ _ _ a
theorem ga{b:D}:∀a,IX (RG u w v b a)
 |0=>λ_ _ _ _ _ c=>by cases c
 |a+1=>AeI (ga a)
theorem qn(h:t.follows .mixedOrders=L)(l:∀a d,a<1000000->v (Ar a)=A d->I5 t a=A d){f:D}{b:Bh}(g:JZ t b)(e:IX b):JZ t (Ht v f b):=by
 intro a i g o k n c;unfold Ht at c;split at c;.grind
 .rename_i j m;exact f6 ‹_› e (gL h _ ‹_› e) P c
theorem f_(m:t.follows .mixedOrders=L)(k:∀b j,b<1000000->v (Ar b)=A j->I5 t b=A j)(n:Ru t u){c:D}:∀b,JZ t (RG u w v c b)
 |0=>λ_ _ _ _ _ _ a=>by cases a
 |b+1=>by
  have o:=qn (f:=c) m k (f_ m k n b) (ga (b:=c) b)
  intro d e f h g l a
  have a:JV u w v c (RG u w v c b) (Ar d) e f=A (h,g):=a
  unfold JV at a
  cases i:w (Ar d)with
  |true=>rw[i]at a;exact o d e f h g l a
  |false=>rw[i]at a;exact Acy n o d e f h g l a
end
section
def EP(t y:Bh):Prop:=∀c a b d,t c a b=A d->y c a b=A d
theorem EP.refl(t:Bh):EP t t:=λ_ _ _ _ a=>a
theorem EP.AQ{a b c:Bh}(e:EP a b)(f:EP b c):EP a c:=λ_ _ _ _ d=>f _ _ _ _ (e _ _ _ _ d)
section
variable{t y:Bh} (z:EP t y)
theorem Yl(z:EP t y){e:Io}{b:Fm}{c:G}{d:F×G}(a:EE t e b c=A d):EE y e b c=A d:=by
 cases e with
 |call f g=>
  have a:Du t (f.ev b) (A3 b g) c=A d:=a;show Du y (f.ev b) (A3 b g) c=A d;unfold Du at a⊢;split at a;.exact z _ _ _ _ a
  omega
 |rd=>exact a
 |al=>exact a
 |ef=>exact a
 |Dd=>exact a
theorem Ym(z:EP t y):∀{h:C CJ}{b:Fm}{c:G}{d:CK},Ij t h b c=d->d≠.Cw->Ij y h b c=d
 |[],b,c,d,a,e=>a
 |i::l,b,c,d,a,e=>by
  unfold Ij at a⊢
  cases g:HJ i.Ew b with
  |false=>rw[g]at a;exact Ym z a e
  |true=>
   rw[g]at a
   cases f:EE t i.op b c with
   |none=>rw[f]at a;exact A_ a.s e
   |some j=>rw[f]at a;rw[Yl z f];obtain⟨m,k⟩:=j;exact Ym z a e
theorem Yk(z:EP t y):∀{j:C CJ}{g:D}{e:KX}{b:Fm}{c:G}{d:CK},Fy t j g e b c=d->d≠.Cw->Fy y j g e b c=d
 |[],g,e,b,c,d,a,f=>a
 |k::n,g,e,b,c,d,a,f=>by
  rw[Mg]at a⊢
  cases i:HJ k.Ew b with
  |false=>rw[i]at a;exact Yk z a f
  |true=>
   rw[i]at a
   cases h:EE t k.op b c with
   |none=>rw[h]at a;exact A_ a.s f
   |some l=>
    rw[h]at a;rw[Yl z h];obtain⟨o,m⟩:=l;unfold Ic at a⊢;simp only[]at a⊢;split at a;.exact Yk z a f
    grind
end
theorem Rb{f:Fm->G->CK}{a b:CK}(c:Gc f a=b)(e:b≠.Cw):a≠.Cw:=by intro d;subst d;exact e c.s
theorem Wp{e h:Fm->G->CK}(l:∀d c a,e d c=a->a≠.Cw->h d c=a):∀{f g:D}{d:Fm}{c:G}{a:CK},f<=g->Ip e f d c=a->a≠.Cw->Ip h g d c=a
 |0,g,d,c,a,_,b,i=>A_ b.s i
 |f+1,0,d,c,a,m,_,_=>by omega
 |f+1,g+1,d,c,a,m,b,i=>by
  have b:Gc (Ip e f) (e d c)=a:=b
  show Gc (Ip h g) (h d c)=a
  have k:=Rb b i
  rw[l _ _ _ B k]
  cases j:e d c with
  |CP n k=>rw[j]at b;exact Wp l (by omega) b i
  |DG _ _=>rw[j]at b;exact b
  |Cm _ _ _=>rw[j]at b;exact b
  |Cw=>grind
theorem JR{t y:Bh}(z:EP t y){g i:D}(j:g<=i):∀n {b:Fm}{d:G}{f:CK},B5 g t n b d=f->f≠.Cw->B5 i y n b d=f
 | .skip,_,_,_,a,_=>a
 | .It p,_,_,_,a,c=>Ym z a c
 | .HZ p,_,_,_,a,c=>Yk z a c
 | .Cm _,_,_,_,a,_=>a
 | .DG,_,_,_,a,_=>a
 | .Dd,_,_,_,a,c=>A_ a.s c
 | .EB h e,b,d,f,a,c=>by
  have a:Gc (B5 g t e) (B5 g t h b d)=f:=a
  show Gc (B5 i y e) (B5 i y h b d)=f
  have l:=Rb a c
  rw[JR z j h B l]
  cases k:B5 g t h b d with
  |CP r l=>rw[k]at a;exact JR z j e a c
  |DG _ _=>rw[k]at a;exact a
  |Cm _ _ _=>rw[k]at a;exact a
  |Cw=>grind
 | .Hd m h e,b,d,f,a,c=>by
  have a:J6 (B5 g t h b d) (B5 g t e b d) (m.ev b)=f:=a;show J6 (B5 i y h b d) (B5 i y e b d) (m.ev b)=f;generalize m.ev b=q at a⊢;unfold J6 at a⊢;split at a;.exact JR z j h a c
  .exact JR z j e a c
  .exact A_ a.s c
 | .A4 o e,b,d,f,a,c=>by
  have a:LD o (B5 g t e b d)=f:=a;show LD o (B5 i y e b d)=f;have l:B5 g t e b d≠.Cw:=by intro k;rw[k]at a;exact c a.s
  rw[JR z j e B l];omega
 | .DY e,b,d,f,a,c=>Wp (λb d f a c=>JR z j e a c) j (a) c
theorem a6{t y:Bh}(z:EP t y){b f:D}(i:b<=f){a:GY}{c:C F}{e:G}{g:F×G}(d:Nn b t a c e=A g):Nn f y a c e=A g:=by
 unfold Nn at d⊢;have h:B5 b t a.Mb (Kc c .h .nil) e≠.Cw:=by intro j;rw[j]at d;cases d
 rw[JR z i a.Mb B h];omega
variable{v:Aa->C F->Aj F} {w:Aa->Ak} {u:Aa->Aj GY}
theorem gc{t y:Bh}(z:EP t y){b c:D}(d:b<=c):EP (Ht u b t) (Ht u c y):=by
 intro g e f h a;unfold Ht at a⊢;split at a;.omega
 .exact a6 z d a
theorem Acx{t y:Bh}(z:EP t y):EP (Iv v t) (Iv v y):=by
 intro i c f j a;unfold Iv at a⊢;split at a;case h_2=>omega
 rename_i d g e;split at a;.omega
 .split at a;case h_2=>grind
  rename_i k h b;rw[z _ _ _ _ b];omega
theorem mA{t y:Bh}(z:EP t y){b c:D}(e:b<=c):EP (JV v w u b t) (JV v w u c y):=by
 intro f g h i a
 unfold JV at a⊢
 cases d:w f with
 |true=>rw[d]at a;exact gc z e _ _ _ _ a
 |false=>rw[d]at a;exact Acx (gc z e) _ _ _ _ a
theorem a9{c d:D}(e:c<=d):∀{a b:D},a<=b->EP (RG v w u c a) (RG v w u d b)
 |0,_,_=>λ_ _ _ _ f=>by cases f
 |a+1,0,g=>by omega
 |a+1,b+1,g=>mA (a9 e (by omega)) e
variable(v:Aa->C F->Aj F) (w:Aa->Ak) (u:Aa->Aj GY)
def U(a:D):Bh:=RG v w u a a
open Classical in
def W:Bh:=λd a c=>if b:∃e f,U v w u e d a c=A f then A (Classical.choose (Ako b))else O
variable{v w u}
theorem Nf{c b:D}(a:c<=b):EP (U v w u c) (U v w u b):=a9 a a
theorem XE{f:Aa}{c:C F}{d:G}{g:F×G}:W v w u f c d=A g↔∃a,U v w u a f c d=A g:=by
 unfold W;split
 .rename_i b;have e:=Ako (Ako b);constructor;.intro j;cases j;exact⟨_,e⟩
  .rintro⟨a,i⟩
   have h:=Nf (Nat.le_max_right (Classical.choose b) a) _ _ _ _ i;rw[(Nf (Akp (Classical.choose b) a) _ _ _ _ e)]at h;omega
 grind
theorem ht{e:Io}{b:Fm}{c:G}{f:F×G}(a:EE (W v w u) e b c=A f):∃d,EE (U v w u d) e b c=A f:=by
 cases e with
 |call g j=>
  have a:Du (W v w u) (g.ev b) (A3 b j) c=A f:=a;unfold Du at a;split at a;.rename_i l k h;obtain⟨d,i⟩:=XE.1 a;exact⟨d,by show Du _ _ _ _=_;rw[h];exact i⟩
  grind
 |rd=>exact⟨0,a⟩
 |al=>exact⟨0,a⟩
 |ef=>exact⟨0,a⟩
 |Dd=>exact⟨0,a⟩
theorem bR:∀{h:C CJ}{b:Fm}{c:G}{e:CK},Ij (W v w u) h b c=e->e≠.Cw->∃l,Ij (U v w u l) h b c=e
 |[],b,c,e,a,d=>⟨0,a⟩
 |i::q,b,c,e,a,d=>by
  unfold Ij at a⊢
  cases g:HJ i.Ew b with
  |false=>rw[g]at a;exact bR a d
  |true=>
   rw[g]at a
   cases f:EE (W v w u) i.op b c with
   |none=>rw[f]at a;exact A_ a.s d
   |some o=>rw[f]at a;obtain⟨r,p⟩:=o;obtain⟨m,j⟩:=ht f;obtain⟨n,k⟩:=bR a d;refine⟨max m n,?_⟩;rw[Yl (Nf Om) j];exact Ym (Nf Om) k d
theorem bN:∀{k:C CJ}{h:D}{g:KX}{b:Fm}{c:G}{e:CK},Fy (W v w u) k h g b c=e->e≠.Cw->∃i,Fy (U v w u i) k h g b c=e
 |[],h,g,b,c,e,a,d=>⟨0,a⟩
 |l::F,h,g,b,c,e,a,d=>by
  rw[Mg]at a
  cases f:HJ l.Ew b with
  |false=>rw[f]at a;obtain⟨i,n⟩:=bN a d;exact⟨i,by rw[Mg,f];exact n⟩
  |true=>
   rw[f]at a
   cases j:EE (W v w u) l.op b c with
   |none=>rw[j]at a;exact A_ a.s d
   |some s=>
    rw[j]at a;obtain⟨H,E⟩:=s;obtain⟨q,o⟩:=ht j;unfold Ic at a;simp only[]at a;split at a;.rename_i x m;obtain⟨r,p⟩:=bN a d;refine⟨max q r,?_⟩;rw[Mg,f];rw[Yl (Nf Om) o];unfold Ic;simp only[m];exact Yk (Nf Om) p d
    grind
theorem j_{d:Bh->Fm->G->CK}(j:∀t y,EP t y->∀c b a,d t c b=a->a≠.Cw->d y c b=a)(n:∀c b a,d (W v w u) c b=a->a≠.Cw->∃k,d (U v w u k) c b=a):∀{f:D}{c:Fm}{b:G}{a:CK},Ip (d (W v w u)) f c b=a->a≠.Cw->∃k,Ip (d (U v w u k)) f c b=a
 |0,c,b,a,e,i=>A_ e.s i
 |f+1,c,b,a,e,i=>by
  have e:Gc (Ip (d (W v w u)) f) (d (W v w u) c b)=a:=e
  have m:=Rb e i
  obtain⟨h,g⟩:=n _ _ _ B m
  cases l:d (W v w u) c b with
  |CP q m=>rw[l]at e g;obtain⟨o,p⟩:=j_ j n e i;refine⟨max h o,?_⟩;show Gc (Ip _ f) (d (U v w u (max h o)) c b)=a;rw[j _ _ (Nf Om) _ _ _ g (by grind)];exact Wp (j _ _ (Nf Om)) Om p i
  |DG _ _=>rw[l]at e g;exact⟨h,by show Gc (Ip _ f) (d (U v w u h) c b)=a;rw[g];exact e⟩
  |Cm _ _ _=>rw[l]at e g;exact⟨h,by show Gc (Ip _ f) (d (U v w u h) c b)=a;rw[g];exact e⟩
  |Cw=>grind
theorem SZ{f:D}:∀p {c:Fm}{e:G}{h:CK},B5 f (W v w u) p c e=h->h≠.Cw->∃j,B5 f (U v w u j) p c e=h
 | .skip,_,_,_,a,_=>⟨0,a⟩
 | .It E,_,_,_,a,d=>bR a d
 | .HZ E,_,_,_,a,d=>bN a d
 | .Cm _,_,_,_,a,_=>⟨0,a⟩
 | .DG,_,_,_,a,_=>⟨0,a⟩
 | .Dd,_,_,_,a,d=>A_ a.s d
 | .EB i g,c,e,h,a,d=>by
  have a:Gc (B5 f (W v w u) g) (B5 f (W v w u) i c e)=h:=a
  have n:=Rb a d
  obtain⟨l,k⟩:=SZ i B n
  cases m:B5 f (W v w u) i c e with
  |CP I n=>rw[m]at a k;obtain⟨r,x⟩:=SZ g a d;refine⟨max l r,?_⟩;show Gc _ (B5 f (U v w u (max l r)) i c e)=h;rw[JR (Nf Om) Om i k (by grind)];exact JR (Nf Om) Om g x d
  |DG _ _=>rw[m]at a k;exact⟨l,by show Gc _ (B5 f (U v w u l) i c e)=h;rw[k];exact a⟩
  |Cm _ _ _=>rw[m]at a k;exact⟨l,by show Gc _ (B5 f (U v w u l) i c e)=h;rw[k];exact a⟩
  |Cw=>exact A_ m n
 | .Hd o i g,c,e,h,a,d=>by
  have a:J6 (B5 f (W v w u) i c e) (B5 f (W v w u) g c e) (o.ev c)=h:=a;have s:∀j,B5 f (U v w u j) (.Hd o i g) c e=J6 (B5 f (U v w u j) i c e) (B5 f (U v w u j) g c e) (o.ev c):=λ_=>B;simp only[s];generalize o.ev c=H at a⊢;unfold J6 at a⊢;split at a;.exact SZ i a d
  .exact SZ g a d
  .exact A_ a.s d
 | .A4 q g,c,e,h,a,d=>by
  have a:LD q (B5 f (W v w u) g c e)=h:=a;have n:B5 f (W v w u) g c e≠.Cw:=by intro m;rw[m]at a;exact d a.s
  obtain⟨j,F⟩:=SZ g B n;exact⟨j,by show LD q (B5 f (U v w u j) g c e)=h;grind⟩
 | .DY g,c,e,h,a,d=>j_ (d:=λt=>B5 f t g) (λ_ _ z _ _ _ a d=>JR z Om g a d) (λ_ _ _ a d=>SZ g a d) (a) d
theorem gb{b:D}{e:Aa}{c:C F}{d:G}{h:F×G}(a:Ht u b (W v w u) e c d=A h):∃g,Ht u b (U v w u g) e c d=A h:=by
 unfold Ht at a⊢;split at a;.grind
 .rename_i f k;unfold Nn at a⊢;have i:B5 b (W v w u) f.Mb (Kc c .h .nil) d≠.Cw:=by intro j;rw[j]at a;cases a
  obtain⟨g,l⟩:=SZ f.Mb B i;grind
theorem S5{c:D}{d:Aa}{e:C F}{f:G}{g:F×G}(a:JV v w u c (W v w u) d e f=A g):W v w u d e f=A g:=by
 have:∃b,JV v w u c (U v w u b) d e f=A g:=by
  unfold JV at a⊢
  cases i:w d with
  |true=>rw[i]at a;exact gb a
  |false=>
   rw[i]at a;show∃b,Iv v (Ht u c (U v w u b)) d e f=A g;unfold Iv at a⊢;split at a;case h_2=>grind
   rename_i k m l;split at a;.exact⟨0,a⟩
   .split at a;case h_2=>grind
    rename_i o n j;obtain⟨b,h⟩:=gb j;exact⟨b,by rw[h];exact a⟩
 obtain⟨b,h⟩:=this;refine XE.2 ⟨max b c+1,?_⟩;exact mA (EP.AQ (Nf (Akp b c)) (a9 (by omega) (C6 _))) (by omega) _ _ _ _ h
open Classical in
def DA (t:Bh) (a:HK) (c:Fm) (b:G):CK:=if e:∃d,B5 d t a c b≠.Cw then B5 (Classical.choose e) t a c b else .Cw
section
variable{t:Bh}
theorem H_{a:D}{b:HK}{f:Fm}{c:G}{e:CK}(g:B5 a t b f c=e)(h:e≠.Cw):DA t b f c=e:=by unfold DA;have d:∃a,B5 a t b f c≠.Cw:=⟨a,by rw[g];exact h⟩;rw[dif_pos d,<-(JR (EP.refl t) (Akp (Classical.choose d) a) b B P),(JR (EP.refl t) (Nat.le_max_right (Classical.choose d) a) b g h)]
theorem JQ{b:HK}{e:Fm}{d:G}{a:CK}(c:DA t b e d=a)(g:a≠.Cw):∃f,B5 f t b e d=a:=by unfold DA at c;split at c<;>grind
theorem Ad6{c:HK}{f:Fm}{d:G}{b:CK}(e:b≠.Cw):DA t c f d=b↔∃g,B5 g t c f d=b:=⟨λa=>JQ a e,λ⟨_,a⟩=>H_ a e⟩
theorem UJ{b c:CK}(d:∀a,a≠.Cw->b=a->c=a)(e:∀a,a≠.Cw->c=a->b=a):b=c:=by grind
theorem Aeb(b:Fm)(a:G):DA t .skip b a=.CP b a:=H_ (a:=0) B (by grind)
theorem Ad9(b:Fm)(a:G):DA t .DG b a=.DG b a:=H_ (a:=0) B (by grind)
theorem Ad5(b:D)(c:Fm)(a:G):DA t (.Cm b) c a=.Cm b c a:=H_ (a:=0) B (by grind)
theorem Ad8(d:C CJ)(e:Fm)(c:G):DA t (.It d) e c=Ij t d e c:=
 UJ (λf b a=>by obtain⟨g,a⟩:=JQ a b;exact a) (λf b a=>H_ (a:=0) a b)
theorem Ad4(d:C CJ)(e:Fm)(c:G):DA t (.HZ d) e c=Fy t d 0 ⟨[],[]⟩ e c:=
 UJ (λf b a=>by obtain⟨g,a⟩:=JQ a b;exact a) (λf b a=>H_ (a:=0) a b)
theorem Aea(d g:HK)(f:Fm)(e:G):DA t (.EB d g) f e=Gc (DA t g) (DA t d f e):=by
 refine UJ (λk c a=> ?_) (λk c a=> ?_)
 .obtain⟨b,a⟩:=JQ a c
  have a:Gc (B5 b t g) (B5 b t d f e)=k:=a
  have j:=Rb a c
  rw[H_ B j]
  cases h:B5 b t d f e with
  |CP n j=>rw[h]at a;exact H_ a c
  |DG _ _=>rw[h]at a;exact a
  |Cm _ _ _=>rw[h]at a;exact a
  |Cw=>grind
 .have j:=Rb a c
  obtain⟨b,i⟩:=JQ B j
  cases h:DA t d f e with
  |CP n j=>rw[h]at a i;obtain⟨l,m⟩:=JQ (a) c;refine H_ (a:=max b l) ?_ c;show Gc (B5 (max b l) t g) (B5 (max b l) t d f e)=k;rw[JR (EP.refl t) Om d i (by grind)];exact JR (EP.refl t) Om g m c
  |DG _ _=>rw[h]at a i;exact H_ (by show Gc (B5 b t g) (B5 b t d f e)=k;rw[i];exact a) c
  |Cm _ _ _=>rw[h]at a i;exact H_ (by show Gc (B5 b t g) (B5 b t d f e)=k;rw[i];exact a) c
  |Cw=>grind
theorem Ad3(e:Od)(g h:HK)(b:Fm)(d:G):DA t (.Hd e g h) b d=J6 (DA t g b d) (DA t h b d) (e.ev b):=by
 have i:∀f,B5 f t (.Hd e g h) b d=J6 (B5 f t g b d) (B5 f t h b d) (e.ev b):=λ_=>B;refine UJ (λj c a=> ?_) (λj c a=> ?_)
 .obtain⟨f,a⟩:=JQ a c;rw[i]at a;generalize e.ev b=k at a⊢;unfold J6 at a⊢;split at a;.exact H_ a c
  .exact H_ a c
  omega
 .rw[Ad6 c];simp only[i];generalize e.ev b=k at a⊢;unfold J6 at a⊢;split at a;.exact JQ a c
  .exact JQ a c
  grind
theorem Ad2(g:D)(b:HK)(d:Fm)(c:G):DA t (.A4 g b) d c=LD g (DA t b d c):=by
 refine UJ (λi e a=> ?_) (λi e a=> ?_)
 .obtain⟨f,a⟩:=JQ a e;have a:LD g (B5 f t b d c)=i:=a;have h:B5 f t b d c≠.Cw:=by intro j;rw[j]at a;exact e a.s
  rw[H_ B h];exact a
 .have h:DA t b d c≠.Cw:=by intro j;rw[j]at a;exact e a.s
  obtain⟨f,k⟩:=JQ B h;exact H_ (by show LD g (B5 f t b d c)=i;grind) e
theorem Ad7(c:HK)(f:Fm)(e:G):DA t (.DY c) f e=Gc (DA t (.DY c)) (DA t c f e):=by
 refine UJ (λj d a=> ?_) (λj d a=> ?_)
 .obtain⟨b,a⟩:=JQ a d
  cases b with
  |zero=>exact A_ (a).s d
  |succ b=>
   have a:Gc (Ip (B5 (b+1) t c) b) (B5 (b+1) t c f e)=j:=a
   have i:=Rb a d
   rw[H_ B i]
   cases g:B5 (b+1) t c f e with
   |CP m i=>rw[g]at a;refine H_ (a:=b+1) ?_ d;exact Wp P Om (a) d
   |DG _ _=>rw[g]at a;exact a
   |Cm _ _ _=>rw[g]at a;exact a
   |Cw=>grind
 .have i:=Rb a d
  obtain⟨b,h⟩:=JQ B i
  cases g:DA t c f e with
  |CP m i=>rw[g]at a h;obtain⟨k,l⟩:=JQ (a) d;refine H_ (a:=max b k+1) ?_ d;show Gc (Ip (B5 (max b k+1) t c) (max b k)) (B5 (max b k+1) t c f e)=j;rw[JR (EP.refl t) (by omega) c h (by grind)];exact Wp (λ_ _ _ a d=>JR (EP.refl t) (by omega) c a d) (by omega) l d
  |DG _ _=>rw[g]at a h;exact H_ (a:=b+1) (by show Gc _ (B5 (b+1) t c f e)=j;rw[JR (EP.refl t) Om c h (by grind)];exact a) d
  |Cm _ _ _=>rw[g]at a h;exact H_ (a:=b+1) (by show Gc _ (B5 (b+1) t c f e)=j;rw[JR (EP.refl t) Om c h (by grind)];exact a) d
  |Cw=>grind
end
def Q7(t:Bh)(a:GY)(b:C F)(c:G):Aj (F×G):=Wj a.Hn (DA t a.Mb (Kc b .h .nil) c)
theorem Z5{t:Bh}{d:GY}{b:C F}{e:G}{f:F×G}(c:Q7 t d b e=A f):∃a,Nn a t d b e=A f:=by
 unfold Q7 at c;have g:DA t d.Mb (Kc b .h .nil) e≠.Cw:=by intro h;rw[h]at c;cases c
 obtain⟨a,i⟩:=JQ B g;exact⟨a,by unfold Nn;grind⟩
theorem nF{a:Aa}{c:GY}{b:C F}{d:G}{e:F×G}(h:w a=L)(j:u a=A c)(g:Q7 (W v w u) c b d=A e):W v w u a b d=A e:=by obtain⟨f,i⟩:=Z5 g;refine S5 (c:=f) ?_;unfold JV;rw[h];unfold Ht;grind
theorem nG{a:Aa}{j:GY}{d b:C F}{e f g l:G}{h i:F}(n:w a=Ac)(o:u a=A j)(p:F9 e d=A (b,f))(q:v a b=O)(k:Q7 (W v w u) j b G.Az=A (h,g))(r:Dq g h=A (i,l)):W v w u a d e=A (i,f):=by
 obtain⟨c,m⟩:=Z5 k;refine S5 (c:=c) ?_;unfold JV;rw[n];show Iv v (Ht u c (W v w u)) a d e=A (i,f);unfold Iv;have m:Ht u c (W v w u) a b G.Az=A (h,g):=by unfold Ht;grind
 grind
theorem nH{b:Program}(i:b.follows .mixedOrders=L)(h:∀a c,a<1000000->u (Ar a)=A c->I5 b a=A c)(l:Ru b v):JZ b (W v w u):=by intro a d f n g k e;obtain⟨m,j⟩:=XE.1 e;exact(f_ i h l m a d f n g k j)
theorem aA{b:Program}(l:b.follows .mixedOrders=L)(k:∀a d,a<1000000->u (Ar a)=A d->I5 b a=A d)(n:Ru b v){a:D}{c:C F}{f g:F}{e j:G}(m:a<1000000)(h:W v w u (Ar a) c G.Az=A (f,e))(i:Dq e f=A (g,j)):P6 b a c g:=mN (nH l k n) m h i
end
