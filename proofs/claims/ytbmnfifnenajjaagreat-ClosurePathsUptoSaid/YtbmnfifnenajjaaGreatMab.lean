/- Part of the proof. -/
import Derived.Laws.Cells
import Derived.Laws.IdiomCopy
import Derived.Laws.Tables
import Derived.Laws.Append
import Derived.Laws.StructEq
import Derived.Laws.Cover3
import Derived.Laws.Pointers
import Derived.WideLaws
import Derived.IntWalk
import Derived.Test.YtbmnfifnenajjaaGreatMaa
set_option linter.all false
noncomputable section
open Option renaming some->A,none->O,bind->Option.b
open _root_ renaming rfl->B,List->C,Nat->D,Int->K,if_neg->Ad,if_pos->Af,Option->Ae,Bool->Ah,cond->Aj,Array->Bg,absurd->BF
open Bool renaming true->L,false->Aa
open Decidable renaming decide->Ao
open Nat renaming beq->AW,ble->BX,le_refl->CK
open Go renaming Value->Ba,World->By,TypeId->BQ
open List renaming length->List.l,map->List.m,take->List.t,drop->List.d,toArray->List.a,flatMap->List.f
open Go.IntKind renaming i64->Go.IntKind.n
open Array renaming toList->Array.l,size->Array.z
open Eq renaming trans->Eq.t,symm->Eq.s
open Or renaming inl->Or.i,inr->Or.j
open Int renaming toNat->Int.n
namespace Go.Fg
mutual
theorem bB{t:AT}:∀c {e:Ba}{d:F},Tm c e=A d->VR t d e
 |0,_,_,b=>by simp[Tm]at b
 |c+1,e,d,b=>by
  unfold Tm at b;split at b;.cases b;exact .b _
  .cases b;exact .i _ _
  .cases b;exact .s _ _ B
  .cases b;exact .pn
  .cases b;exact .sn
  .cases b;exact .mn
  .cases b;exact .fn
  .cases b;exact .KZ
  .rename_i p q o;split at b
   .rename_i l;cases b
    obtain⟨f,g,k⟩:=l;have i:=AfK g;have j:=AfK k;subst i j;exact .f _ f _ _ .nil
   grind
  .rename_i m;split at b;.rename_i n h;cases b;exact .S _ _ (bC c h)
   grind
  .rename_i m;split at b;.rename_i n h;cases b;exact .AB _ _ (bC c h)
   grind
  grind
theorem bC{t:AT}:∀c {e:C Ba}{d:C F},Rn c e=A d->Bw t d e
 |0,_,_,b=>by simp[Rn]at b
 |c+1,[],d,b=>by simp[Rn]at b;subst b;exact .nil
 |c+1,e::r,d,b=>by
  unfold Rn at b;split at b;.rename_i s x f g;cases b;exact .cons _ _ _ _ (bB c f) (bC c g)
  grind
end
section
variable{v:Program} {t:AT} {y:Fm} {a:Act} {u:G} {w:By}
theorem Gi(f:TR t y a){d:Operand}{e:Od}(b:od d=A e):VR t (e.ev y) (a.eval d):=by
 unfold od at b;split at b
 .rename_i h;split at b
  .rename_i c;cases b
   exact f h (by simpa[Afh]using c)
  grind
 .rename_i j;split at b;.rename_i d g;cases b;exact bB _ g
  grind
 .grind
 .rename_i i;split at b
  .rename_i c;cases b
   exact .f _ (by simpa[Afh]using c) _ _ .nil
  grind
theorem OD(e:TR t y a):∀{d:C Operand}{c:C Od},Dz d=A c->Bw t (AU y c) (d.m a.eval)
 |[],c,b=>by simp[Dz]at b;subst b;exact .nil
 |j::d,c,b=>by
  unfold Dz at b;split at b;.rename_i h i f g;cases b;exact .cons _ _ _ _ (Gi e f) (OD e g)
  grind
theorem JD{c:Rd}{d:Operand}{b:Io}(f:LZ c d=A b):∃e,od d=A e/\b=.rd c [e]:=by unfold LZ at f;grind
theorem FY{c:Rd}{d:C Operand}{b:Io}(f:HV c d=A b):∃e,Dz d=A e/\b=.rd c e:=by unfold HV at f;grind
theorem P7{c:Al}{d:C Operand}{b:Io}(f:T4 c d=A b):∃e,Dz d=A e/\b=.al c e:=by unfold T4 at f;grind
theorem JV{c:Ef}{d:C Operand}{b:Io}(f:N1 c d=A b):∃e,Dz d=A e/\b=.ef c e:=by unfold N1 at f;grind
theorem RM{b:Ah}{c:Ba}(d:VR t (.b b) c):c=.bool b:=by cases d;rfl
theorem IR{b:IntKind}{c:K}{d:Ba}(e:VR t (.i b c) d):d=.int b c:=by cases e;rfl
theorem OQ{c:T}{d:D}{e:Ba}(f:VR t (.p c d) e):∃b,t c=A b/\e=.pointer (A ⟨b.r,b.sh+d,O⟩):=by cases f;grind
theorem PW{b:C F}{d:Ba}(e:VR t (.S b) d):∃c,Bw t b c.l/\d=.agg c:=by cases e;grind
theorem kA{b:C F}{d:Ba}(e:VR t (.AB b) d):∃c,Bw t b c.l/\d=.tuple c:=by cases e;grind
theorem OR{c:C D}{d:Ba}(e:VR t (.s c) d):∃b,b.data.l.m UInt8.toNat=c/\d=.string b:=by cases e;grind
theorem TS{b:Ba}(c:VR t .pn b):b=.pointer O:=by cases c;rfl
theorem KO{b:Ba}(c:VR t .sn b):b=.slice O 0 0:=by cases c;rfl
theorem cR{b:Ba}(c:VR t .mn b):b=.map O:=by cases c;rfl
theorem TQ{c:T}{d:Ba}(e:VR t (.m c) d):∃b,t c=A b/\d=.map (A b.r):=by cases e;grind
theorem IS{h:T}{f e d i:D}{g:Ba}(k:VR t (.Z h f e d i) g):(∃b c,t h=A b/\e<=c/\(d=0\/d=c+1)/\b.sh+f+c*i<=b.sz/\g=.slice (A ⟨b.r,b.sh+f,O⟩) e c)\/(∃j,e=0/\(d=0\/d=1)/\g=.slice (A j) 0 0):=by
 cases k
 .rename_i b c l m n o;exact .i ⟨b,c,l,m,n,o,B⟩
 grind
theorem RN{c:C F}{g:Ba}(h:VR t (.pi c) g):∃d e f b,t.im (.c d) e f/\c<+:d.d b/\g=.pointer (A ⟨e,f+b,O⟩):=by cases h;grind
theorem RO{c:C (C F)}{h:Ba}(i:VR t (.CV c) h):(∃e f g d j b,t.im (.c e) f g/\c.flatten<+:e.d d/\(∀l∈c,l.l=j)/\c.l<=b/\h=.slice (A ⟨f,g+d,O⟩) c.l b)\/(c=[]/\∃k b,h=.slice (A k) 0 b)\/(c=[]/\h=.slice O 0 0):=by
 cases i
 .rename_i e f g d j b i n o m;exact .i ⟨e,f,g,d,j,b,i,n,o,m,B⟩
 .rename_i a b;exact .j (.i ⟨B,a,b,B⟩)
 .exact .j (.j ⟨B,B⟩)
theorem ky{b c:C F}{d:Ba}(f:VR t (.mi b c) d):(∃e,t.im (.m b c) e 0/\d=.map (A e))\/(b=[]/\c=[]/\d=.map O):=by cases f<;>grind
theorem kz{b:T}{g f d i:D}{h:Ba}(e:VR t (.Z b g f d i) h):∃c,t b=A c:=by cases e<;>exact⟨_,‹_›⟩
theorem KP{e:F}{c:C Ba}(d:Bw t [e] c):∃b,c=[b]/\VR t e b:=by cases d;rename_i b c d f;cases f;grind
theorem cS{d e:F}{b:C Ba}(c:Bw t [d,e] b):∃f g,b=[f,g]/\VR t d f/\VR t e g:=by cases c;rename_i i b c h;obtain⟨_⟩:=KP h;grind
theorem My(d c b:D):(⟨d,c,O⟩:Addr).add b=⟨d,c+b,O⟩:=by unfold Addr.add;grind
theorem ea{b:T}{d:D}{c:C F}(e:u.I b=A (d,c)):u.M b=A (.I d c)\/u.M b=A (.rc d c):=by unfold G.I DR at e;grind
theorem Qg(e:HR t u w){d:T}{h:D}{g:C F}{c:Fe}(b:u.I d=A (h,g))(f:t d=A c):CR t h g c w:=by
 rcases ea b with b|b;.exact e.Ca d _ c b f
 .exact e.Ca d _ c b f
theorem mY{b:T}{d:D}{c:C F}(e:Ul (u.M b)=A (d,c)):u.M b=A (.I d c):=by unfold Ul at e;grind
theorem gQ(m:HR t u w){e:C F}{h i c d:D}{g:C F}{f:F}(k:t.im (.c e) h i)(o:g<+:e.d c)(E:g[d]? =A f):∃b,w.cell? ⟨h,i+c+d,O⟩=A b/\VR t f b:=by
 obtain⟨p,q,s,x,z,l⟩:=m.EJ _ _ _ k;obtain⟨G,n⟩:=o;have:e[c+d]? =A f:=by rw[<-Aft,<-n,AeQ P];omega
 obtain⟨b,r,j⟩:=l _ _ this;refine⟨b,?_,j.Ar t.Wq⟩;unfold World.cell?;grind
theorem gR(p:HR t u w){f:C F}{g e c:D}{b:C F}(n:t.im (.c f) g e)(r:b<+:f.d c):∃k,Bw t b k/\∀d,d.heap=w.heap->(loadCells ⟨g,e+c,O⟩ b.l).run v d=.ok k.a d:=by
 obtain⟨h,z,G,H,I,o⟩:=p.EJ _ _ _ n;obtain⟨Q,i⟩:=r;have J:b.l<=f.l-c:=by have:=AdW List.length i;grind
 by_cases q:b.l=0
 .have:b=[]:=by simpa using q
  subst this;exact⟨[],.nil,λd _=>by rfl⟩
 .refine⟨(h.l.d (e+c)).t b.l,?_,?_⟩
  .refine Bw.Tn (by simp;omega) λs l j=> ?_;have:f[c+s]? =A l:=by rw[<-Aft,<-i,AeQ (AdN.1 j).1];omega
   obtain⟨x,E,m⟩:=o _ _ this;refine⟨x,?_,m.Ar t.Wq⟩;grind
  .intro d M;have:=run_loadCells_list (P:=v) d ⟨g,e+c,O⟩ ((h.l.d (e+c)).t b.l) (λN l j=>by rw[My];unfold World.cell?;grind)
   grind
theorem aC(k:HR t u w){e:C F}{f g d:D}{c:C F}(h:t.im (.c e) f g)(l:c<+:e.d d):∃b,Bw t c b/\(loadCells ⟨f,g+d,O⟩ c.l).run v w=.ok b.a w:=by obtain⟨b,i,j⟩:=gR k h l;exact⟨b,i,j w B⟩
theorem jc{h:T}{f c:D}{g:C F}(e:u.AL h f c=A g):∃b d,u.I h=A (b,d)/\f+c<=b/\(c=b->d.l=b->f=0->g=(d.d f).t c)/\(c≠b->g=(d.d f).t c)/\(c=b->g=d):=by
 unfold G.AL at e;split at e
 .rename_i b d k
  cases i:BX (f+c) b with
  |false=>grind
  |true=>
   rw[i]at e;refine⟨b,d,k,(AdT i),?_⟩;by_cases j:c=b;.subst j;rw[Aee]at e;grind
   .rw[Gm j]at e;cases e
    exact⟨Om,λ_=>by rw[PS,WD];rfl,Om⟩
 grind
theorem X_(k:HR t u w){f:T}{d c:D}{e:C F}{b:Fe}(i:u.AL f d c=A e)(l:t f=A b):∃h,Bw t e h/\e.l=c/\(loadCells ⟨b.r,b.sh+d,O⟩ c).run v w=.ok h.a w:=by
 obtain⟨z,x,j,_⟩:=jc i;obtain⟨p,q,g,_⟩:=Qg k j l;have m:e.l=c:=by grind
 refine⟨(g.l.d (b.sh+d)).t c,?_,m,?_⟩;.refine Bw.Tn (by grind) λr o n=> ?_;grind
 .have:=run_loadCells_list (P:=v) w ⟨b.r,b.sh+d,O⟩ ((g.l.d (b.sh+d)).t c) (λs o n=>by
   rw[My]
   unfold World.cell?
   grind)
  grind
theorem jb(k:HR t u w){e:T}{g:D}{h:F}{d:Fe}(b:u.Ap e g=A h)(l:t e=A d):∃c,VR t h c/\w.cell? ⟨d.r,d.sh+g,O⟩=A c:=by
 unfold G.Ap at b;split at b;.rename_i H z f;obtain⟨o,p,m,f,E,x,q,r,s,j⟩:=Qg k f l;rw[PH]at b;obtain⟨c,n,i⟩:=j _ _ b;exact⟨c,i,by unfold World.cell?;grind⟩
 grind
end
section
variable{t:Program} {u:AT} {y:Fm} {a:Act} {v:G} {w:By}
theorem Qz{d:BQ}{c:D}(e:sz t d=A c):∃b,t.info? d=A b/\b.size=c:=by unfold sz at e;grind
theorem HX{c:BQ}{b:D}(d:sz t c=A b):(sizeOf c).run t w=.ok b w:=by obtain⟨f,e,rfl⟩:=Qz d;simp[sizeOf,typeInfo,e]
theorem UL{d:BQ}(c:D0 t d=L):(isAgg d).run t w=.ok L w:=by
 unfold D0 at c;split at c;.rename_i e b;simp[isAgg,run_underlying b]
 .rename_i f g b;simp[isAgg,run_underlying b]
 grind
theorem UK{b:BQ}{c:TypeDesc}(d:D0 t b=Aa)(e:t.underlying b=A c):(isAgg b).run t w=.ok Aa w:=by unfold D0 at d;rw[e]at d;cases c<;>simp_all[isAgg,run_underlying e]
theorem PX{b:F}{c:Ba}(d:VR u b c):Bw u b.I c.cells.l:=by
 cases d<;>first
  |(rename_i f g e;exact e)
  |(refine .cons _ _ _ _ ?_ .nil;constructor<;>assumption)
theorem P0{e:BQ}{f:F}(b:KR t e=A f):∃c d,t.info? e=A c/\c.zero=A d/\VR u f d:=by
 unfold KR at b;split at b
 .rename_i c g;split at b;.rename_i d h;exact⟨c,d,g,h,bB _ b⟩
  grind
 grind
theorem Yb{c:BQ}{b:TypeInfo}{d:Ba}(e:t.info? c=A b)(f:b.zero=A d):(zeroValue c).run t w=.ok d w:=by simp[zeroValue,typeInfo,e,f]
theorem u9{c:BQ}{e:D}{d:Bg Ba}{b:D}(f:D0 t c=L)(g:sz t c=A e):(part c d b).run t w=.ok (.agg (d.extract b (b+e))) w:=by simp[part,UL f,HX g]
theorem iN{b:BQ}{f:TypeDesc}{c:Bg Ba}{d:D}{e:Ba}(g:D0 t b=Aa)(h:t.underlying b=A f)(i:c[d]? =A e):(part b c d).run t w=.ok e w:=by simp[part,UK g h,i]
theorem oE(e:D):∀(d:C Ba)(c:Bg Ba),e+d.l<=c.z->∀b,((d.zipIdx 0).foldl (λc g=>c.setIfInBounds (e+g.2) g.1) c)[b]? =if e<=b/\b<e+d.l then d[b-e]?else c[b]? :=by
 have k:∀(d:C Ba) f (c:Bg Ba),e+f+d.l<=c.z->∀b,((d.zipIdx f).foldl (λc g=>c.setIfInBounds (e+g.2) g.1) c)[b]? =if e+f<=b/\b<e+f+d.l then d[b-(e+f)]?else c[b]? :=by
  intro d
  induction d with
  |nil=>intro f c h b;simp;omega
  |cons l d i=>
   intro f c h b;simp only[List.zipIdx_cons,AeY,Aec]at h⊢;rw[i (f+1) _ (by grind) b];by_cases j:b=e+f;.grind
   grind
 grind
theorem ZS(F:D->Ae (D×D)):∀g c p f i d,Qo c p f=A i->Bw u p (g.m (·.2))->Bw u f d.l->c.l=g.l->(∀(e:D) b h,c[e]? =A b->g[e]? =A h->F h.1=A b)->GZ f.l c=L->∃o,Instr.fill F d g=A o/\Bw u i o.l
 |[],c,p,f,i,d,r,E,n,M,z,x=>by
  cases c with
  |cons _ _=>grind
  |nil=>
   cases E
   cases r
   exact⟨d,B,n⟩
 |(U,j)::g,c,p,f,i,d,r,E,n,M,z,x=>by
  cases c with
  |nil=>simp at M
  |cons b c=>
   cases E
   rename_i l P T S
   simp only[GZ,AdO]at x
   have Z:=AdT x.1
   have J:Aj (AW (Bq l.I) b.2) (Qo c P (Dg b.1 l.I f)) O=A i:=r
   cases H:AW (Bq l.I) b.2 with
   |false=>grind
   |true=>
    rw[H]at J;have I:=AdQ H;rw[GK]at I;have s:=PX T;have xb:j.cells.z=b.2:=by rw[<-I,<-s.length];simp
    have xc:d.z=f.l:=by rw[<-n.length];simp
    have R:Bw u (Dg b.1 l.I f) ((j.cells.l.zipIdx 0).foldl (λq m=>q.setIfInBounds (b.1+m.2) m.1) d).l:=by
     have xa:((j.cells.l.zipIdx 0).foldl (λq m=>q.setIfInBounds (b.1+m.2) m.1) d).z=d.z:=by
      generalize j.cells.l.zipIdx 0=N
      generalize d=h
      induction N generalizing h with
      |nil=>rfl
      |cons a N xd=>grind
     refine Bw.Tn (by rw[U4];grind) λe xe k=> ?_;rw[ap _ _ _ _ (by omega)]at k;rw[AfL,(oE b.1 j.cells.l d (by grind) e),s.length];by_cases G:b.1<=e/\e<b.1+l.I.l;.rw[Af G]at k⊢;exact s.M k
     .rw[Ad G]at k⊢;obtain⟨_⟩:=n.M k;grind
    obtain⟨o,W,Q⟩:=ZS F g c P _ i _ J S R (by grind) (λe V h X Y=>z (e+1) V h (by grind) (by grind)) (by rw[U4];grind);refine⟨o,?_,Q⟩;unfold Instr.fill;simp only[(z 0 b (U,j) (by simp) (by simp))];rw[Ad (by grind),<-Array.foldl_toList,Array.toList_zipIdx];omega
end
theorem R4{d e:Ae Ah}{c:Ah}(f:JO d e=A c):∃a b,d=A a/\e=A b/\c=(a&&b):=by unfold JO at f;grind
theorem N2:∀{b:C D}{c d:C F}{e:Ah},Gp b c d=A e->c.l=b.l/\d.l=b.l
 |[],[],[],_,_=>⟨B,B⟩
 |[],[],_::_,_,a=>by cases a
 |[],_::_,_,_,a=>by cases a
 |_::_,[],_,_,a=>by cases a
 |_::_,_::_,[],_,a=>by cases a
 |k::b,g::c,h::d,e,a=>by obtain⟨l,m,i,f,j⟩:=R4 (a);simp[(N2 f)]
theorem eN:∀{a f:C D}{e b:C F}{c:Ah},Gp (a++f) e b=A c->∃g i,Gp a (e.t a.l) (b.t a.l)=A g/\Gp f (e.d a.l) (b.d a.l)=A i/\c=(g&&i)
 |[],_,e,b,c,d=>⟨L,c,by rfl,by grind,by simp⟩
 |h::a,f,[],b,c,d=>by cases d
 |h::a,f,_::_,[],c,d=>by cases d
 |h::a,f,j::e,k::b,c,d=>by obtain⟨g,i,n,o,s⟩:=R4 (d);obtain⟨p,q,l,m,r⟩:=eN o;refine⟨g&&p,q,?_,m,by grind⟩;show JO (HH h j k) (Gp a (e.t a.l) (b.t a.l))=_;rw[n,l];cases g<;>rfl
theorem dX{b c:ByteArray}:(b.data.l.m UInt8.toNat==c.data.l.m UInt8.toNat)=(b.toList==c.toList):=by
 rw[ByteArray.toList_eq,ByteArray.toList_eq]
 generalize b.data.l=h
 generalize c.data.l=a
 induction h generalizing a with
 |nil=>cases a<;>rfl
 |cons d h i=>
  cases a with
  |nil=>rfl
  |cons e a=>
   have f:(d.toNat==e.toNat)=(d==e):=by
    by_cases g:d=e;.grind
    .rw[beq_eq_false_iff_ne.2 g,beq_eq_false_iff_ne.2 (λf=>g (UInt8.toNat_inj.1 f))]
   grind
section
variable{t:Program} {u:AT}
theorem Sn{e:D}{n o:F}{h i:Ba}{g:Ah}(c:HH e n o=A g)(j:VR u n h)(k:VR u o i):(e=0/\∃f a b,h=.int f a/\i=.int f b/\g=(a==b))\/(e=1/\∃a b,h=.bool a/\i=.bool b/\g=(a==b))\/(e=2/\∃a b,h=.string a/\i=.string b/\g=(a.toList==b.toList)):=by
 unfold HH at c;split at c
 .rename_i f a m b
  cases d:AW e 0 with
  |false=>grind
  |true=>
   rw[d]at c
   cases l:Hu f m with
   |false=>grind
   |true=>
    rw[l]at c;have:=(Oi f m).1 l;subst this;cases c
    exact .i ⟨AdQ d,f,a,b,IR j,IR k,Kz a b⟩
 .rename_i a b
  cases d:AW e 1 with
  |false=>grind
  |true=>rw[d]at c;cases c;exact .j (.i ⟨AdQ d,a,b,RM j,RM k,B⟩)
 .rename_i a b
  cases d:AW e 2 with
  |false=>grind
  |true=>rw[d]at c;cases c;obtain⟨r,p,rfl⟩:=OR j;obtain⟨s,q,rfl⟩:=OR k;refine .j (.j ⟨AdQ d,r,s,B,B,?_⟩);rw[MY,<-p,<-q,dX]
 grind
def KW(t:Program)(c:BQ)(a:Bg Ba)(b:Ba):Prop:=if D0 t c=L then b=.agg a else a= #[b]
theorem bP{a:BQ}{e:D}{c:Bg Ba}{b:D}(g:By){h:TypeDesc}(j:t.underlying a=A h)(k:sz t a=A e)(l:b+e<=c.z)(i:D0 t a=Aa->e=1):∃f,(part a c b).run t g=.ok f g/\KW t a (c.extract b (b+e)) f:=by
 cases d:D0 t a with
 |true=>exact⟨_,u9 d k,by unfold KW;rw[Af d]⟩
 |false=>have:=i d;subst this;refine⟨c[b],iN d j (by grind),?_⟩;unfold KW;grind
theorem QH:∀d a b,If t d a=A b->(∃f,t.underlying a=A f)/\sz t a=A b.l/\(D0 t a=Aa->b.l=1)
 |0,_,_,c=>by cases c
 |d+1,a,b,c=>by
  unfold If at c;have j:∀e,(if(sz t a==A 1)=L then A [e]else O)=A b->sz t a=A b.l/\(D0 t a=Aa->b.l=1):=by grind
  split at c;.grind
  .grind
  .grind
  .rename_i i g;refine⟨⟨_,g⟩,?_,λh=>by unfold D0 at h;grind⟩;grind
  grind
def c2(t:Program)(k:D)(a:BQ)(b:C D):Prop:=
 ∀(f:By)(u:AT)(c d:C F)(h j:Bg Ba)(g i:Ba)(e:Ah),
  sz t a=A b.l->Bw u c h.l->Bw u d j.l->KW t a h g->KW t a j i->Gp b c d=A e->(Op.equalIn k a g i).run t f=.ok e f
theorem eO(m:D)(s:BQ->Ae (C D))(k l:Bg Ba){u:AT}(H:∀e c,s e=A c->c2 t m e c)(x:∀e c,s e=A c->(∃m,t.underlying e=A m)/\sz t e=A c.l/\(D0 t e=Aa->c.l=1))(j:By):
  ∀n a c h i r,SL s n=A c->Sg t a n=L->a<=k.z->a<=l.z->Bw u h (k.l.d a)->Bw u i (l.l.d a)->Gp c h i=A r->
   (Op.eqFields m k l n).run t j=.ok r j
 |[],a,c,h,i,r,g,o,Z,xa,y,z,p=>by
  cases g
  have:r=L:=by
   obtain⟨U,xi⟩:=N2 p
   cases h with
   |nil=>cases i with
    |nil=>cases p;rfl
    |cons _ _=>grind
   |cons _ _=>simp at U
  subst this;simp[Op.eqFields]
 |T::n,a,c,h,i,r,g,o,Z,xa,y,z,p=>by
  unfold SL at g;split at g
  .rename_i b xb w S;split at g
   .rename_i X;cases g
    unfold Sg at o;split at o
    .rename_i xl v;simp only[AdO]at o;obtain⟨V,W⟩:=o;have I:=(x _ _ w).2.1;rw[v]at I;cases I
     obtain⟨xc,d,Q,R,E⟩:=eN p;obtain⟨xj,xk⟩:=N2 p;have M:a+b.l<=k.z:=by have:=y.length;grind
     have N:a+b.l<=l.z:=by have:=z.length;grind
     obtain⟨⟨xh,G⟩,_,J⟩:=x _ _ w;obtain⟨xn,xd,xe⟩:=bP j G v M J;obtain⟨xo,xf,xg⟩:=bP j G v N J;have xm:∀(f:Bg Ba) d,Bw u d (f.l.d a)->Bw u (d.t b.l) (f.extract a (a+b.l)).l:=by intro f d q;rw[Array.toList_extract,Af9,show a+b.l-a=b.l by omega];exact(Bw.cG b.l q)
     have q:=H _ _ w j u _ _ _ _ _ _ _ v P P xe xg Q;have Y:T.name≠ "_" :=by simpa using X
     have F:∀(f:Bg Ba) d,Bw u d (f.l.d a)->Bw u (d.d b.l) (f.l.d (a+b.l)):=by intro f d q;have:=Bw.Zn b.l q;rwa[Afi]at this
     simp only[Op.eqFields,Y,ne_eq,Sem.run_bind,(AdQ V),xd,xf,q,Result.andThen_ok,Sem.run_ite];cases xc
     .simp[E]
     .simpa[E]using(eO m s k l H x j n (a+b.l) xb _ _ d S W M N (F k h y) (F l i z) R)
    grind
   grind
  grind
theorem aH(d:D):∀b c l,If t b c=A l->c2 t (d+b) c l
 |0,_,_,a=>by cases a
 |b+1,c,l,a=>by
  intro s u S V F G W X E Y z R i j v;have w:D0 t c=Aa->l.l=1->∃k m n,l=[k]/\VR u m W/\VR u n X/\HH k m n=A E:=by
   intro y J;obtain⟨k,rfl⟩:=Afu.1 J;obtain⟨T,U⟩:=N2 v;obtain⟨m,rfl⟩:=Afu.1 T;obtain⟨n,rfl⟩:=Afu.1 U;unfold KW at i j;rw[Ad (by grind)]at i j;subst i j;obtain⟨_,H,g⟩:=KP z;obtain⟨_,I,h⟩:=KP R;cases H;cases I
   obtain⟨_⟩:=R4 (v);grind
  unfold If at a;split at a
  .rename_i xa f;split at a
   .cases a
    obtain⟨k,m,n,r,g,h,q⟩:=w (by unfold D0;grind) B;cases r
    rcases Sn q g h with⟨_,Z,o,p,rfl,rfl,rfl⟩|⟨e,_⟩|⟨e,_⟩;.exact run_equalIn_int s (d+b) c _ _ o p f
    .cases e
    .cases e
   grind
  .rename_i f;split at a
   .cases a
    obtain⟨k,m,n,r,g,h,q⟩:=w (by unfold D0;grind) B;cases r
    rcases Sn q g h with⟨e,_⟩|⟨_,o,p,rfl,rfl,rfl⟩|⟨e,_⟩;.omega
    .exact run_equalIn_bool' s (d+b) c o p f
    omega
   grind
  .rename_i f;split at a
   .cases a
    obtain⟨k,m,n,r,g,h,q⟩:=w (by unfold D0;grind) B;cases r
    rcases Sn q g h with⟨e,_⟩|⟨e,_⟩|⟨_,o,p,rfl,rfl,rfl⟩;.omega
    .omega
    .exact run_equalIn_string s (d+b) c o p f
   grind
  .rename_i x f;split at a
   .rename_i M;split at a
    .rename_i xb Q;split at a
     .cases a
      simp only[AdO]at M;have y:D0 t c=L:=by unfold D0;grind
      unfold KW at i j;rw[Af y]at i j;subst i j;have N:t.fieldsOf c=x:=by unfold Program.fieldsOf;grind
      rw[show d+(b+1)=(d+b)+1 by omega,run_equalIn_struct s (d+b) c F G (by grind) P,N];exact eO (d+b) (If t b) F G ((aH d b)) ((QH b)) s x.l 0 l S V E Q P Om Om (by simpa using z) (by grind) v
     grind
    grind
   grind
  grind
end
section
variable{t:Program} {u:AT}
theorem hb{a:BQ}{b:Ah}{c:C D}(d:Oj t a=A (b,c)):If t 8 a=A c/\b=D0 t a:=by unfold Oj at d;grind
theorem WK{a:Ah}{c:C D}{e f:F}{j l:Ba}{d:Ah}(b:Jr a c e f=A d)(n:VR u e j)(o:VR u f l):(a=L/\∃h i k m,Bw u h k.l/\Bw u i m.l/\j=.agg k/\l=.agg m/\Gp c h i=A d)\/(a=Aa/\Gp c [e] [f]=A d/\∃g,c=[g]/\HH g e f=A d):=by
 unfold Jr at b;split at b
 .rename_i h i
  cases a with
  |false=>grind
  |true=>obtain⟨_⟩:=PW n;obtain⟨_⟩:=PW o;grind
 .cases a with
  |true=>cases b
  |false=>obtain⟨p,q⟩:=N2 b;obtain⟨g,rfl⟩:=Afu.1 p.s;obtain⟨_⟩:=R4 (b);grind
theorem fd(a:Ah)(c:C D)(b:F)(d:D):Gs a c b [] d=A O:=rfl
theorem W1(a:Ah)(d:C D)(c:F)(b:Bx)(g:C Bx)(e:D):Gs a d c (b::g) e=match Jr a d c b.He with
  |some f=>if f then A (A (e,b))else Gs a d c g (e+1)
  |none=>O:=by
 show@Option.casesOn Ah (λ_=>Ae (Ae (D×Bx))) (Jr a d c b.He) O (λf=>Aj f (A (A (e,b))) (Gs a d c g (e+1)))=_
 cases Jr a d c b.He<;>grind
def OW(u:AT)(f:C Bx)(g:C MapEntry)(d:D):Ae (D×Bx)->Ae (D×Ba)->Prop
 |none,O=>True
 |some (c,a),A (h,e)=>h=c/\d<=c/\f[c-d]? =A a/\∃b,g[c-d]? =A b/\b.val=e/\VR u a.Eo e/\b.born=a.MB/\VR u a.He b.key
 |_,_=>False
theorem OW.jR{d:C Bx}{e:C MapEntry}{h:Bx}{i:MapEntry}{f:D}{c:Ae (D×Bx)}{a:Ae (D×Ba)}(b:OW u d e (f+1) c a):OW u (h::d) (i::e) f c a:=by
 cases c with
 |none=>cases a with
  |none=>trivial
  |some g=>cases b
 |some g=>cases a with
  |none=>cases b
  |some m=>obtain⟨r,n⟩:=g;obtain⟨s,v⟩:=m;obtain⟨k,o,p,j,q,l⟩:=b;refine⟨k,by omega,?_,j,?_,l⟩<;>grind
theorem wT{g:BQ}{d:TypeDesc}{f:D}{l n:F}{m o:Ba}{k:Ah}(b:If t 8 g=A [f])(e:t.underlying g=A d)(a:D0 t g=Aa)(p:HH f l n=A k)(q:VR u l m)(r:VR u n o):Instr.sameNow d m o=A k:=by
 unfold If at b;rw[e]at b;have h:∀c,(if(sz t g==A 1)=L then A [c]else O)=A [f]->c=f:=by grind
 rcases Sn p q r with⟨c,s,i,j,rfl,rfl,rfl⟩|⟨c,i,j,rfl,rfl,rfl⟩|⟨c,i,j,rfl,rfl,rfl⟩
 .cases d<;>first
  |(simp[Instr.sameNow];done)
  |(exfalso;have:=h _ b;omega)
  |(exfalso;cases b;done)
  |(exfalso;unfold D0 at a;rw[e]at a;cases a;done)
 .cases d<;>first
  |(simp[Instr.sameNow];done)
  |(exfalso;have:=h _ b;omega)
  |(exfalso;cases b;done)
  |(exfalso;unfold D0 at a;rw[e]at a;cases a;done)
 .cases d<;>first
  |(simp[Instr.sameNow,beq_toListBytes];done)
  |(exfalso;have:=h _ b;omega)
  |(exfalso;cases b;done)
  |(exfalso;unfold D0 at a;rw[e]at a;cases a;done)
theorem fe{l:BQ}{m:TypeDesc}{k:C D}(q:If t 8 l=A k)(p:t.underlying l=A m)(o:D0 t l=Aa){j:F}{v:Ba}(i:VR u j v):∀d a c e,FO u d a->Gs Aa k j d c=A e->∃f,Instr.findNow m v a c=A f/\OW u d a c e f
 |[],a,c,e,g,b=>by
  cases g;cases b
  exact⟨O,B,Aeb⟩
 |x::d,a,c,e,g,b=>by
  cases g
  rename_i n a h H J G
  rw[W1]at b
  cases r:Jr Aa k j x.He with
  |none=>grind
  |some w=>
   rw[r]at b
   rcases WK r i h with⟨I,_⟩|⟨_,_,M,rfl,E⟩
   .grind
   have s:=wT q p o E i h
   cases w with
   |true=>simp at b;subst b;refine⟨A (c,n.val),by simp[Instr.findNow,s],B,Om,by simp,n,by simp,B,H,Om,h⟩
   |false=>obtain⟨f,y,z⟩:=fe q p o i d a (c+1) e G b;exact⟨f,by simpa[Instr.findNow,s]using y,z.jR⟩
theorem e_{d:BQ}{g:C D}(e:By)(n:If t 8 d=A g)(G:D0 t d=L){o:F}{j:Ba}(q:VR u o j):∀f a c h,FO u f a->Gs L g o f c=A h->∃k,(Instr.findAsking d j a c).run t e=.ok k e/\OW u f a c h k
 |[],a,c,h,m,b=>by
  cases m;cases b
  exact⟨O,by simp[Instr.findAsking],Aeb⟩
 |v::f,a,c,h,m,b=>by
  cases m
  rename_i i a p I T H
  rw[W1]at b
  cases r:Jr L g o v.He with
  |none=>grind
  |some l=>
   rw[r]at b
   rcases WK r q p with⟨_,J,M,N,P,y,z,R,S,E⟩|⟨Q,_⟩
   case inr=>grind
   have s:(Op.equal d j i.key).run t e=.ok l e:=(aH 9992 8 d g n e u J M N P j i.key l (QH 8 d g n).2.1 y z (by unfold KW;grind) (by unfold KW;grind) E)
   cases l with
   |true=>simp at b;subst b;refine⟨A (c,i.val),by simp[Instr.findAsking,s],B,Om,by simp,i,by simp,B,I,Om,p⟩
   |false=>obtain⟨k,w,x⟩:=e_ e n G q f a (c+1) h H b;exact⟨k,by simpa[Instr.findAsking,s]using w,x.jR⟩
theorem W2{a:BQ}{q:Ah}{j:C D}(p:By)(x:Oj t a=A (q,j)){w:F}{k:Ba}(v:VR u w k){d:C Bx}{b:C MapEntry}{l:Ae (D×Bx)}(o:FO u d b)(i:Gs q j w d 0=A l):∃g,(Instr.findKey a k b).run t p=.ok g p/\OW u d b 0 l g:=by
 obtain⟨f,rfl⟩:=hb x
 obtain⟨⟨h,e⟩,_⟩:=QH 8 a j f
 cases c:D0 t a with
 |false=>rw[c]at i;obtain⟨g,m,n⟩:=fe f e c v d b 0 l o i;exact⟨g,by simp[Instr.findKey,run_underlying e,m],n⟩
 |true=>
  rw[c]at i
  obtain⟨g,m,n⟩:=e_ p f c v d b 0 l o i
  cases o with
  |nil=>
   cases i
   exact⟨O,by simp[Instr.findKey,run_underlying e,Instr.findNow],Aeb⟩
  |cons E r d b H J G I=>
   have y:Instr.findNow h k (r::b) 0=O:=by
    have:Instr.sameNow h k r.key=O:=by rcases z f c e with⟨s,rfl⟩;rfl
    simp[Instr.findNow,this]
   exact⟨g,by simpa[Instr.findKey,run_underlying e,y]using m,n⟩where
 z {a:BQ} {j:C D} {h:TypeDesc} (f:If t 8 a=A j) (c:D0 t a=L) (e:t.underlying a=A h):∃s,h=.struct s:=by unfold If at f;unfold D0 at c;grind
theorem eb(f:Ah)(h:D){c:BQ}{a:TypeDesc}(d:t.underlying c=A a)(b:D0 t c=Aa)(g:∀i,a≠.interface i)(j:Ba)(e:By):(Instr.checkKey f (h+1) c j).run t e=.ok () e:=by unfold D0 at b;rw[d]at b;cases a<;>simp[Instr.checkKey,run_underlying d]at b g⊢
theorem hc{a:D}{e:BQ}{g:C D}{b:TypeDesc}(c:If t a e=A g)(h:t.underlying e=A b):∀d,b≠.interface d:=by
 intro d f
 subst f
 cases a with
 |zero=>cases c
 |succ a=>unfold If at c;grind
theorem ec(o:Ah):∀d n j c,If t d j=A c->∀m i r f,Bw u m i.l->m.l=c.l->KW t j i r->(Instr.checkKey o (n+d) j r).run t f=.ok () f
 |0,_,_,_,a,_,_,_,_,_,_,_=>by cases a
 |d+1,n,j,c,a,m,i,r,f,s,W,v=>by
  obtain⟨⟨z,l⟩,_⟩:=QH (d+1) j c a
  cases k:D0 t j with
  |false=>exact eb o (n+d) l k (hc a l) r f
  |true=>
   unfold If at a;rw[l]at a;unfold KW at v;rw[Af k]at v;subst v;cases z<;>simp only[]at a<;>try(unfold D0 at k;rw[l]at k;cases k;done)
   case array=>cases a
   case struct e=>
    split at a
    .rename_i E;split at a
     .rename_i xa H;split at a
      .cases a
       simp only[AdO]at E;simp only[Instr.checkKey,Sem.run_bind,run_underlying l,Result.andThen_ok];rw[<-Array.forIn_toList];have N:∀e b c,SL (If t d) e=A c->Sg t b e=L->b+c.l<=i.z->(∀m:C F,True)->(forIn e PUnit.unit λg xc=>(if g.name≠ "_" then do let T<-part g.type i g.offset;Instr.checkKey o (n+d) g.type T;pure (ForInStep.yield PUnit.unit)else pure (ForInStep.yield PUnit.unit)):Sem PUnit).run t f=.ok PUnit.unit f:=by
        intro e
        induction e with
        |nil=>intro b c _ _ _ _;simp
        |cons g e Y=>
         intro b c q p I _;unfold SL at q;split at q
         .rename_i h Z w V;split at q
          .rename_i X;cases q
           unfold Sg at p;split at p
           .rename_i xb x;simp only[AdO]at p;obtain⟨⟨U,G⟩,y,M⟩:=QH d _ _ w;rw[x]at y;cases y;rw[AdY]at I;obtain⟨Q,R,S⟩:=bP f G x (show b+h.l<=i.z by omega) M;have J:g.name≠ "_" :=by grind
            simp only[List.forIn_cons,J,ne_eq,AdM,Aea,Sem.run_bind,(AdQ p.1),R,(ec o d n g.type h w ((m.d b).t h.l) (i.extract b (b+h.l)) Q f (by rw[Array.toList_extract,Af9,show b+h.l-b=h.l by omega];exact(Bw.cG h.l (Bw.Zn b s))) (by have:=s.length;grind) S),Result.andThen_ok,Sem.run_pure]
            grind
           grind
          grind
         grind
       have:=N e.l 0 c H P (by have:=s.length;grind) P;simp at this;simp[this]
      grind
     grind
    grind
end
section
variable{z:Program} {v:AT} {t:Fm} {a:Act} {u:G} {w:By}
theorem KQ(d:IntKind)(b:K):Iu d b=d.wrap b:=by
 have h:aD b=L->IntKind.i64.wrap b=b:=by
  intro c;have e: -9223372036854775808<=b/\b<=9223372036854775807:=by
   cases b with
   |ofNat f=>have:=AdT (c);grind
   |negSucc f=>have:=AdT (c);omega
  exact IntWalk.i64_in b e
 unfold Iu;rw[gP,gP];split
 .rename_i c;have g:d=.n:=by cases d<;>simp[UI]at c<;>rfl
  grind
 omega
def GV(z:Program)(v:AT)(u:G)(w:By)(c:Oper)(a:Act)(d:F):Prop:=∃b,(execOp a.eval c).run z w=.ok (.value b) w/\VR v d b
theorem Uv(c:Od)(b:C Od):AU t (c::b)=c.ev t::AU t b:=rfl
theorem Vq{c:Operand}{d:C Operand}{b:C Od}(g:Dz (c::d)=A b):∃e f,od c=A e/\Dz d=A f/\b=e::f:=by unfold Dz at g;grind
theorem iw{b:C Od}(c:Dz []=A b):b=[]:=by cases c;rfl
theorem iv{e f:Operand}{d:C Od}(g:Dz [e,f]=A d):∃b c,od e=A b/\od f=A c/\d=[b,c]:=by
 obtain⟨b,l,j,h,rfl⟩:=Vq g;obtain⟨c,m,k,i,rfl⟩:=Vq h;cases iw i
 grind
theorem bA{f g h:Operand}{c:C Od}(i:Dz [f,g,h]=A c):∃b e d,od f=A b/\od g=A e/\od h=A d/\c=[b,e,d]:=by obtain⟨b,l,k,j,rfl⟩:=Vq i;obtain⟨_⟩:=iv j;grind
variable(y:TR v t a) (s:HR v u w)
theorem i9(y:TR v t a)(s:HR v u w){d:Oper}{c:Operand}{f:Od}{e:F}(b:d.op=.move c\/d.op=.assign c)(h:od c=A f)(g:Rd.ev .mv (AU t [f]) u=A e):GV z v u w d a e:=by
 cases g
 exact⟨a.eval c,by rcases b with b|b<;>simp[execOp,b],Gi y h⟩
theorem v0(y:TR v t a)(s:HR v u w){l:Oper}{i g h:Operand}{k:C Od}{f:F}(r:l.op=.pick i g h)(E:Dz [i,g,h]=A k)(x:Rd.ev .pick (AU t k) u=A f):GV z v u w l a f:=by
 obtain⟨G,H,I,o,p,q,rfl⟩:=bA E;have j:=Gi y o;have e:DY [G.ev t,H.ev t,I.ev t]=A f:=x;unfold DY at e;split at e
 .rename_i b J M m;injection m with n c;injection c with c d;injection d with d _;cases e
  rw[n]at j;refine⟨if b then a.eval g else a.eval h,by cases b<;>simp[execOp,r,(RM j),asBool],?_⟩;subst c d;cases b
  .exact Gi y q
  .exact Gi y p
 grind
theorem X6{b c:C F}(e:b<+:c)(d:D):b.d d<+:c.d d:=by obtain⟨f,rfl⟩:=e;rw[List.drop_append];grind
theorem vV(y:TR v t a)(s:HR v u w){G:Oper}{Q:BQ}{Z:Operand}{n:Rd}{R:C Od}{o:F}(k:G.op=.load Q Z)(e:DS z G=A (.rd n R))(N:n.ev (AU t R) u=A o):GV z v u w G a o:=by
 unfold DS at e;rw[k]at e;simp only[]at e;split at e
 .rename_i i;split at e
  .rename_i E M;obtain⟨I,r,b⟩:=JD e;cases b
   have d:=Gi y r;have c:A9 E u [I.ev t]=A o:=N;unfold A9 at c;split at c
   .rename_i T X b;injection b with b _;rw[b]at d;obtain⟨S,p,f⟩:=OQ d;split at c
    .rename_i m V;cases c
     obtain⟨x,g,h,j⟩:=X_ (v:=z) s V p;exact⟨.agg x.a,by simp[execOp,k,f,Instr.loadAt,Instr.sureAddr,loadVar,UL i,HX M,j],.S _ _ (by omega)⟩
    grind
   .rename_i m b
    injection b with b _
    rw[b]at d
    obtain⟨W,n,Y,U,g,h,f⟩:=RN d
    cases q:BX E m.l with
    |false=>rw[q]at c;cases c
    |true=>
     rw[q]at c;cases c
     obtain⟨x,j,l⟩:=aC (v:=z) s g (Ae7 (List.take_prefix E m) h);rw[Aef,Afj (AdT q)]at l;exact⟨.agg x.a,by simp[execOp,k,f,Instr.loadAt,Instr.sureAddr,loadVar,UL i,HX M,l],.S _ _ (by omega)⟩
   grind
  grind
 .rename_i i;have i:D0 z Q=Aa:=by grind
  split at e
  .rename_i U J;obtain⟨I,r,b⟩:=JD e;cases b
   have d:=Gi y r;have c:AM u [I.ev t]=A o:=N;unfold AM at c;split at c;.rename_i T X b;injection b with b _;rw[b]at d;obtain⟨S,p,f⟩:=OQ d;obtain⟨H,g,h⟩:=jb s c p;exact⟨H,by simp[execOp,k,f,Instr.loadAt,Instr.sureAddr,loadVar,UK i J,h],g⟩
   .rename_i m b;injection b with b _;rw[b]at d;obtain⟨W,n,Y,xa,g,h,f⟩:=RN d;obtain⟨H,j,l⟩:=gQ s g h c;exact⟨H,by simp[execOp,k,f,Instr.loadAt,Instr.sureAddr,loadVar,UK i J];rw[Aev]at j;simp[j],l⟩
   grind
  grind
theorem vZ(y:TR v t a)(s:HR v u w){i:Oper}{e:Operand}{b:Od}{d:F}(n:i.op=.nilCheck e)(m:od e=A b)(k:Rd.ev .bt (AU t [b]) u=A d):GV z v u w i a d:=by
 have c:=Gi y m;have l:bu (b.ev t)=A d:=k;unfold bu at l;have j:d=b.ev t/\b.ev t≠.pn/\b.ev t≠.KZ/\b.ev t≠.fn:=by grind
 obtain⟨rfl,f,g,h⟩:=j;refine⟨a.eval e,?_,c⟩;revert c f g h;generalize b.ev t=p;generalize o:a.eval e=q;intro c f g h;cases c<;>simp_all[execOp]
theorem v3(y:TR v t a)(s:HR v u w){j:Oper}{p:UnOp}{q:BQ}{r:Operand}{m:Rd}{n:C Od}{g:F}(h:j.op=.unOp p q r)(d:DS z j=A (.rd m n))(l:m.ev (AU t n) u=A g):GV z v u w j a g:=by
 unfold DS at d;rw[h]at d;simp only[]at d;split at d
 .obtain⟨k,i,b⟩:=JD d;cases b
  have e:=Gi y i;have c:H_ [k.ev t]=A g:=l;unfold H_ at c;split at c
  .rename_i f o b;injection b with b _;rw[b]at e;cases c
   rw[KQ,UM];exact⟨.int f (f.wrap (0-o)),by simp[execOp,h,(IR e),Op.unary,Op.intArith],.i _ _⟩
  grind
 .obtain⟨k,i,b⟩:=JD d;cases b
  have e:=Gi y i;have c:DE [k.ev t]=A g:=l;unfold DE at c;split at c
  .rename_i f b;injection b with b _;rw[b]at e;cases c
   exact⟨.bool (!f),by simp[execOp,h,(RM e),Op.unary],.b _⟩
  grind
 grind
theorem vS(y:TR v t a)(s:HR v u w){m:Oper}{T:BQ}{U:Operand}{I:D}{d:Rd}{H:C Od}{n:F}(j:m.op=.fieldAddr T U I)(c:DS z m=A (.rd d H))(P:d.ev (AU t H) u=A n):GV z v u w m a n:=by
 unfold DS at c;rw[j]at c;simp only[]at c;split at c
 .rename_i X p;split at c
  .rename_i e q;split at c
   .rename_i E r;split at c;.grind
    .rename_i x;obtain⟨V,Q,b⟩:=JD c;cases b
     have f:=Gi y Q;have g:Bl e.offset [V.ev t]=A n:=P;unfold Bl at g;split at g
     .rename_i W S b;injection b with b _;rw[b]at f;obtain⟨h,N,k⟩:=OQ f;cases g
      have l:E≠0:=λi=>by subst i;exact x B
      refine⟨.pointer (A ⟨h.r,h.sh+(S+e.offset),O⟩),?_,.p _ _ h N⟩;simp[execOp,j,k,Instr.fieldAt,run_underlying p,q,Instr.sureAddr,fieldPlace,HX r,l,My,AeM]
     .rename_i Y b;injection b with b _;rw[b]at f;obtain⟨R,d,G,o,J,M,k⟩:=RN f;cases g
      have l:E≠0:=λi=>by subst i;exact x B
      refine⟨.pointer (A ⟨d,G+(o+e.offset),O⟩),?_,.pi _ R d G (o+e.offset) J ?_⟩;.simp[execOp,j,k,Instr.fieldAt,run_underlying p,q,Instr.sureAddr,fieldPlace,HX r,l,My,AeM]
      .rw[<-Afi];exact X6 M _
     grind
   grind
  grind
 grind
theorem vR(y:TR v t a)(s:HR v u w){e:Oper}{I:BQ}{M:Operand}{m:D}{k:Rd}{l:C Od}{f:F}(j:e.op=.field I M m)(b:DS z e=A (.rd k l))(E:k.ev (AU t l) u=A f):GV z v u w e a f:=by
 unfold DS at b;rw[j]at b;simp only[]at b;split at b
 .rename_i Q p;split at b
  .rename_i g r;split at b
   .rename_i U R;split at b;.grind
    .rename_i i;have i:D0 z g.type=Aa:=by grind
     split at b
     .rename_i P q;obtain⟨N,H,c⟩:=JD b;cases c
      have h:=Gi y H;have d:CX g.offset [N.ev t]=A f:=E;unfold CX at d;split at d;.rename_i S c;injection c with c _;rw[c]at h;obtain⟨T,x,G⟩:=PW h;rw[PH]at d;obtain⟨J,n,o⟩:=x.M d;exact⟨J,by simp[execOp,j,G,Instr.field,run_underlying p,r,asAgg,iN i q (by simpa using n)],o⟩
      grind
     grind
   grind
  grind
 grind
theorem vQ(y:TR v t a)(s:HR v u w){h:Oper}{d:D}{i:Operand}{f:Od}{e:F}(p:h.op=.extract i d)(n:od i=A f)(m:Rd.ev (.ext d) (AU t [f]) u=A e):GV z v u w h a e:=by
 have g:=Gi y n;have b:CO d [f.ev t]=A e:=m;unfold CO at b;split at b;.rename_i r c;injection c with c _;rw[c]at g;obtain⟨x,l,q⟩:=kA g;rw[PH]at b;obtain⟨o,j,k⟩:=l.M b;exact⟨o,by simp[execOp,Instr.extract,by simpa using j, *],k⟩
 grind
theorem vX(y:TR v t a)(s:HR v u w){c:Oper}{l:Fn}{k d:Bg Operand}{g:Rd}{i:C Od}{h:F}(f:c.op=.makeFunc l k d)(b:DS z c=A (.rd g i))(o:g.ev (AU t i) u=A h):GV z v u w c a h:=by
 unfold DS at b;rw[f]at b;simp only[]at b;split at b
 .rename_i e;split at b
  .rename_i m;obtain⟨q,p,j⟩:=FY b;cases j
   cases o
   have n:=AfK m.2;subst n;exact⟨.func (.func e) #[] (d.map a.eval),by simp[execOp,f,Instr.makeFunc],.f e P _ _ (by simpa using(OD y p))⟩
  grind
 grind
theorem vY(y:TR v t a)(s:HR v u w){c:Oper}{e:BQ}{g:Operand}{d:Rd}{h:C Od}{f:F}(l:c.op=.makeInterface e g)(b:DS z c=A (.rd d h))(n:d.ev (AU t h) u=A f):GV z v u w c a f:=by
 unfold DS at b;rw[l]at b;simp only[]at b;split at b;.grind
 .rename_i i p k;split at b;case isFalse=>grind
  rename_i m;obtain⟨q,o,j⟩:=JD b;cases j
  cases n
  refine⟨.iface e (a.eval g),?_,.ic _ m _ _ (Gi y o)⟩;cases i<;>simp_all[execOp,Instr.makeInterface,run_underlying k]
 grind
end
section
variable{t:Program} {u:AT} {y:Fm} {a:Act} {z:G} {w:By}
theorem DL{e:Type}{b:Ah}{d:Ae e}{c:e}(f:Aj b d O=A c):b=L/\d=A c:=by grind
theorem en{e:Type}{b:Ah}{d:Ae e}{c:e}(f:Aj b O d=A c):b=Aa/\d=A c:=by grind
theorem MX(v:TR u y a){e f:Operand}{d:C Od}(g:Dz [e,f]=A d):∃b c,AU y d=[b,c]/\VR u b (a.eval e)/\VR u c (a.eval f):=by obtain⟨b,c,h,i,rfl⟩:=iv g;exact⟨_,_,B,Gi v h,Gi v i⟩
theorem LB(d:BinOp)(e:BQ)(f h:Operand)(b c:Ba)(j:¬(b=.nilIface/\c=.nilIface))(k:∀g i,¬(b=.agg g/\c=.agg i)):(eqGuard d e f h b c).run t w=.ok () w:=by unfold eqGuard;cases d<;>simp<;>(cases b<;>cases c<;>simp_all)
theorem lJ(f:BinOp)(l:BQ)(e:IntKind)(d b:K){j:F}(c:YY f e d b=A j)(m:f≠.shl/\f≠.shr):∃k,(binOp f l (.int e d) (.int e b)).run t w=.ok k w/\VR u j k:=by
 unfold YY at c;cases f<;>simp only[]at c
 case add=>cases c;exact⟨.int e (e.wrap (d+b)),by simp[binOp,Op.intArith],by unfold Wg;rw[KQ,gN];exact .i _ _⟩
 case sub=>cases c;exact⟨.int e (e.wrap (d-b)),by simp[binOp,Op.intArith],by unfold j7;rw[KQ,UM];exact .i _ _⟩
 case mul=>cases c;exact⟨.int e (e.wrap (d*b)),by simp[binOp,Op.intArith],by unfold ia;rw[KQ];exact .i _ _⟩
 case quo=>
  obtain⟨g,h⟩:=en c;cases h
  have i:b≠0:=by rw[Kz]at g;grind
  exact⟨.int e (e.wrap (d.tdiv b)),by simp[binOp,Op.intDiv,i],by rw[KQ];exact .i _ _⟩
 case rem=>
  obtain⟨g,h⟩:=en c;cases h
  have i:b≠0:=by rw[Kz]at g;grind
  exact⟨.int e (d.tmod b),by simp[binOp,Op.intDiv,i],.i _ _⟩
 case and=>cases c;exact⟨_,by simp[binOp,Op.intBits],.i _ _⟩
 case or=>cases c;exact⟨_,by simp[binOp,Op.intBits],.i _ _⟩
 case xor=>cases c;exact⟨_,by simp[binOp,Op.intBits],.i _ _⟩
 case shl=>grind
 case shr=>grind
 case andNot=>cases c
 case eql=>cases c;exact⟨.bool (d==b),by simp[binOp,Op.intCmp],by unfold eV;rw[Kz];exact .b _⟩
 case neq=>cases c;exact⟨.bool (d !=b),by simp[binOp,Op.intCmp],by unfold ih;rw[Kz,Tl];exact .b _⟩
 case lss=>cases c;exact⟨.bool (d<b),by simp[binOp,Op.intCmp],by
  unfold hU;rw[MF,Tl];have:(!Ao (b<=d))=Ao (d<b):=by grind
  rw[this];exact .b _⟩
 case leq=>cases c;exact⟨.bool (d<=b),by simp[binOp,Op.intCmp],by unfold hC;rw[MF];exact .b _⟩
 case gtr=>cases c;exact⟨.bool (d>b),by simp[binOp,Op.intCmp],by
  unfold gE;rw[MF,Tl];have:(!Ao (d<=b))=Ao (d>b):=by grind
  rw[this];exact .b _⟩
 case geq=>cases c;exact⟨.bool (d>=b),by simp[binOp,Op.intCmp],by unfold gq;rw[MF];exact .b _⟩
theorem jS(f:BinOp)(k:BQ)(b j:IntKind)(d i:K){g:F}(c:cr f b d i=A g):∃h,(binOp f k (.int b d) (.int j i)).run t w=.ok h w/\VR u g h:=by
 unfold cr at c;split at c
 .rename_i e;cases c
  exact⟨.int b (b.wrap (d*2^(min e b.bits))),by simp[binOp,Op.shift];omega,.i _ _⟩
 .rename_i e;cases c
  exact⟨.int b (d.fdiv (2^(min e b.bits))),by simp[binOp,Op.shift];omega,.i _ _⟩
 grind
theorem lK(e:BinOp)(i:BQ){b c:ByteArray}{f:F}(d:YZ e (b.data.l.m UInt8.toNat) (c.data.l.m UInt8.toNat)=A f):∃g,(binOp e i (.string b) (.string c)).run t w=.ok g w/\VR u f g:=by
 have h:D2 (b.data.l.m UInt8.toNat) (c.data.l.m UInt8.toNat)=(b.toList==c.toList):=by rw[MY,dX]
 unfold YZ at d;rw[h]at d;cases e<;>simp only[]at d<;>try grind
 case eql=>cases d;exact⟨.bool (b.toList==c.toList),by simp[binOp,Op.stringOp],.b _⟩
 case neq=>cases d;exact⟨.bool (!(b.toList==c.toList)),by simp[binOp,Op.stringOp],.b _⟩
theorem nI(d:D){c e:BQ}(f:t.underlying c=A (.pointer e))(b:Ae Addr):(Op.equalIn (d+1) c (.pointer b) (.pointer O)).run t w=.ok b.isNone w:=by cases b<;>simp[Op.equalIn,run_underlying f]
theorem nJ(d:D){c e:BQ}(f:t.underlying c=A (.pointer e))(b:Ae Addr):(Op.equalIn (d+1) c (.pointer O) (.pointer b)).run t w=.ok b.isNone w:=by simp[Op.equalIn,run_underlying f]
theorem nK(d:D){b e:BQ}(f:t.underlying b=A (.slice e))(h:Addr)(g c:D):(Op.equalIn (d+1) b (.slice O 0 0) (.slice (A h) g c)).run t w=.ok Aa w:=by simp[Op.equalIn,run_underlying f]
theorem cm{f:Oper}{d:BinOp}{e h:BQ}{b c:Operand}{g:Ba}(k:f.op=.binOp d e b c h)(j:(eqGuard d e b c (a.eval b) (a.eval c)).run t w=.ok () w)(i:(binOp d e (a.eval b) (a.eval c)).run t w=.ok g w):(execOp a.eval f).run t w=.ok (.value g) w:=by simp[execOp, *]
variable(v:TR u y a) (s:HR u z w)
theorem i6(v:TR u y a)(s:HR u z w){p:Oper}{e:BinOp}{c P:BQ}{l m:Operand}{o:C Od}{k:F}(I:p.op=.binOp e c l m P)(H:Dz [l,m]=A o)(b:A6 e (AU y o)=A k):GV t u z w p a k:=by
 obtain⟨Q,R,j,E,G⟩:=MX v H;rw[j]at b;unfold A6 at b;split at b
 .rename_i d g f h j;cases j
  have N:=IR E;have:∃i,(binOp e c (.int d g) (.int f h)).run t w=.ok i w/\VR u k i:=by
   split at b;.exact jS _ c d f g h b
   .exact jS _ c d f g h b
   .rename_i J M;obtain⟨r,x⟩:=DL b;have:=(Oi d f).1 r;subst this;exact lJ e c d g h x ⟨J,M⟩
  obtain⟨i,n,q⟩:=this;rw[<-N,<-(IR G)]at n;exact⟨i,cm I (LB e c l m _ _ (by grind) (by grind)) n,q⟩
 grind
theorem i7(v:TR u y a)(s:HR u z w){j:Oper}{c:BinOp}{e H:BQ}{f g:Operand}{i:C Od}{k:F}(r:j.op=.binOp c e f g H)(q:Dz [f,g]=A i)(b:FS c (AU y i)=A k):GV t u z w j a k:=by
 obtain⟨P,Q,d,o,p⟩:=MX v q;rw[d]at b;unfold FS at b;split at b
 .rename_i M N d;cases d
  obtain⟨I,l,E⟩:=OR o;obtain⟨J,m,G⟩:=OR p;subst l m;obtain⟨x,h,n⟩:=lK c e b;rw[<-E,<-G]at h;exact⟨x,cm r (LB c e f g _ _ (by grind) (by grind)) h,n⟩
 grind
theorem i8(v:TR u y a)(s:HR u z w){V:Oper}{i:Ah}{h xx:BQ}{k l:Operand}{xm:Rd}{G:C Od}{Q:F}(xa:V.op=.binOp (if i then .neq else .eql) h k l xx)(q:Qk t h i k l=A (.rd xm G))(N:xm.ev (AU y G) z=A Q):GV t u z w V a Q:=by
 have xD:∀{d g:Ba}{e:Ah},(Op.equal h d g).run t w=.ok e w->(∀j a x e,¬(d=.int j a/\g=.int x e))->(∀j a x e,¬(d=.float j a/\g=.float x e))->(∀j a e x o Z,¬(d=.complex j a e/\g=.complex x o Z))->(∀a e,¬(d=.string a/\g=.string e))->(binOp (if i then .neq else .eql) h d g).run t w=.ok (.bool (if i then !e else e)) w:=by
  intro d g e R xc xd xe xf;cases i
  .cases d<;>cases g<;>first
   |exact BF ⟨B,B⟩ (xc _ _ _ _)
   |exact BF ⟨B,B⟩ (xd _ _ _ _)
   |exact BF ⟨B,B⟩ (xe _ _ _ _ _ _)
   |exact BF ⟨B,B⟩ (xf _ _)
   |(simp[binOp,R];done)
  .cases d<;>cases g<;>first
   |exact BF ⟨B,B⟩ (xc _ _ _ _)
   |exact BF ⟨B,B⟩ (xd _ _ _ _)
   |exact BF ⟨B,B⟩ (xe _ _ _ _ _ _)
   |exact BF ⟨B,B⟩ (xf _ _)
   |(simp[binOp,R];done)
 have p:∀{d g:Ba}{e:Ah},a.eval k=d->a.eval l=g->(Op.equal h d g).run t w=.ok e w->(eqGuard (if i then .neq else .eql) h k l d g).run t w=.ok () w->Q=.b (if i then !e else e)->(∀j a x e,¬(d=.int j a/\g=.int x e))->(∀j a x e,¬(d=.float j a/\g=.float x e))->(∀j a e x o Z,¬(d=.complex j a e/\g=.complex x o Z))->(∀a e,¬(d=.string a/\g=.string e))->GV t u z w V a Q:=by intro d g e xz xA R xC N xc xd xe xf;subst N;exact⟨_,cm xa (by grind) (by grind),.b _⟩
 unfold Qk at q;split at q;.obtain⟨X,r,c⟩:=FY q;cases c;exact i6 v s xa r N
 .obtain⟨X,r,c⟩:=FY q;cases c;exact i7 v s xa r N
 .rename_i H;obtain⟨X,r,c⟩:=FY q;cases c;obtain⟨W,xg,c,m,n⟩:=MX v r;have f:Fi i (AU y G)=A Q:=N;rw[c]at f;unfold Fi at f;split at f
  .rename_i d g c;cases c
   cases f
   exact p (RM m) (RM n) (run_equal_bool w h d g H) (LB _ h k l _ _ (by simp) (by simp)) (by grind) (by simp) (by simp) (by simp) (by simp)
  .cases f
 .rename_i xj H;obtain⟨X,r,c⟩:=FY q;cases c;obtain⟨W,xg,c,m,n⟩:=MX v r;have f:Gq i (AU y G)=A Q:=N;rw[c]at f;unfold Gq at f;have U:∀(d:Ae Addr),(Op.equal h (.pointer d) (.pointer O)).run t w=.ok d.isNone w:=by intro d;exact nI 9999 H d
  have Y:∀(d:Ae Addr),(Op.equal h (.pointer O) (.pointer d)).run t w=.ok d.isNone w:=by intro d;exact nJ 9999 H d
  split at f
  .rename_i c;cases c
   cases f
   exact p (TS m) (TS n) (U O) (LB _ h k l _ _ (by simp) (by simp)) (by cases i<;>rfl) (by simp) (by simp) (by simp) (by simp)
  .rename_i e xw c;cases c
   cases f
   obtain⟨xi,_,I⟩:=OQ m;exact p I (TS n) (U _) (LB _ h k l _ _ (by simp) (by simp)) (by cases i<;>rfl) (by simp) (by simp) (by simp) (by simp)
  .rename_i e xw c;cases c
   cases f
   obtain⟨xi,_,J⟩:=OQ n;exact p (TS m) J (Y _) (LB _ h k l _ _ (by simp) (by simp)) (by cases i<;>rfl) (by simp) (by simp) (by simp) (by simp)
  .rename_i xv c;cases c
   cases f
   obtain⟨_,_,_,_,_,_,I⟩:=RN m;exact p I (TS n) (U _) (LB _ h k l _ _ (by simp) (by simp)) (by cases i<;>rfl) (by simp) (by simp) (by simp) (by simp)
  .rename_i xv c;cases c
   cases f
   obtain⟨_,_,_,_,_,_,J⟩:=RN n;exact p (TS m) J (Y _) (LB _ h k l _ _ (by simp) (by simp)) (by grind) (by simp) (by simp) (by simp) (by simp)
  grind
 .rename_i xj H;obtain⟨X,r,c⟩:=FY q;cases c;obtain⟨W,xg,c,m,n⟩:=MX v r;have f:HI i (AU y G)=A Q:=N;rw[c]at f;unfold HI at f;have U:∀(d:Ae Addr)(E o:D),(Op.equal h (.slice d E o) (.slice O 0 0)).run t w=.ok d.isNone w:=by intro d E o;exact run_equal_slice_nil w h xj d E o H
  have Y:∀(d:Addr)(E o:D),(Op.equal h (.slice O 0 0) (.slice (A d) E o)).run t w=.ok Aa w:=by intro d E o;exact nK 9999 H d E o
  have xn:∀{e:T}{V E o xq:D}{g:Ba},VR u (.Z e V E o xq) g->∃M S j,g=.slice (A M) S j:=by intro e V E o xq g R;rcases IS R with⟨xi,xy,_,_,_,_,c⟩|⟨M,_,_,c⟩<;>grind
  have xo:∀{W:C F}{xp:C (C F)}{g:Ba},VR u (.CV (W::xp)) g->∃M S j,g=.slice (A M) S j:=by
   intro W xp g R;rcases RO R with⟨_,_,_,_,_,_,_,_,_,_,c⟩|⟨c,_⟩|⟨c,_⟩;.exact⟨_,_,_,c⟩
   .cases c
   .cases c
  split at f
  .rename_i c;cases c
   cases f
   exact p (KO m) (KO n) (U O 0 0) (LB _ h k l _ _ (by simp) (by simp)) (by cases i<;>rfl) (by simp) (by simp) (by simp) (by simp)
  .rename_i c;cases c
   cases f
   obtain⟨M,S,j,I⟩:=xn m;exact p I (KO n) (U _ _ _) (LB _ h k l _ _ (by simp) (by simp)) (by cases i<;>rfl) (by simp) (by simp) (by simp) (by simp)
  .rename_i c;cases c
   cases f
   obtain⟨M,S,j,J⟩:=xn n;exact p (KO m) J (Y _ _ _) (LB _ h k l _ _ (by simp) (by simp)) (by cases i<;>rfl) (by simp) (by simp) (by simp) (by simp)
  .rename_i c;cases c
   cases f
   obtain⟨M,S,j,I⟩:=xo m;exact p I (KO n) (U _ _ _) (LB _ h k l _ _ (by simp) (by simp)) (by grind) (by simp) (by simp) (by simp) (by simp)
  .rename_i c;cases c
   cases f
   obtain⟨M,S,j,J⟩:=xo n;exact p (KO m) J (Y _ _ _) (LB _ h k l _ _ (by simp) (by simp)) (by cases i<;>rfl) (by simp) (by simp) (by simp) (by simp)
  grind
 .rename_i xB H;split at q
  .rename_i xb xl;split at q
   .rename_i xu;obtain⟨X,r,c⟩:=FY q;cases c;obtain⟨W,xg,c,m,n⟩:=MX v r;have f:FT i xb (AU y G)=A Q:=N;rw[c]at f;unfold FT at f;split at f
    .rename_i d g c;cases c
     split at f
     .rename_i e xt;cases f
      obtain⟨G,xr,I⟩:=PW m;obtain⟨xh,xs,J⟩:=PW n;have xk:D0 t h=L:=by unfold D0;rw[H]
      exact p (e:=e) I J (aH (t:=t) 9992 8 h xb xl w u d g G xh (.agg G) (.agg xh) e (QH 8 h xb xl).2.1 xr xs (by unfold KW;rw[Af xk]) (by unfold KW;rw[Af xk]) xt) (run_eqGuard_agg w _ h k l G xh (by simpa using xu)) (by cases i<;>rfl) (by simp) (by simp) (by simp) (by simp)
     .cases f
    .cases f
   .cases q
  .cases q
 grind
end
section
variable{y:Program} {t:AT} {v:Fm} {a:Act} {u:G} {w:By}
theorem Ws{n o:D}{I x:Ah}{M:C F}{m d:D}(i:Ug n o I x M=A (m,d)){h f:Ae Ba}(U:I=h.isSome)(T:x=f.isSome)(E:Bw t M (h.toList++f.toList))(G:n<=o):m<=d/\d<=o/\(x=Aa->d=n)/\∀(c:D)(g:Ah),o<=c->(Instr.sliceBounds g n c h f O).run y w=.ok (m,d,c) w:=by
 unfold Ug at i;split at i
 .cases i
  cases h with
  |some _=>grind
  |none=>cases f with
   |some _=>grind
   |none=>exact⟨Om,G,Om,λc g r=>by simp[Instr.sliceBounds]⟩
 .rename_i H S
  obtain⟨b,e⟩:=DL i
  cases e
  have b:=AdT b
  cases h with
  |none=>grind
  |some J=>cases f with
   |some _=>grind
   |none=>
    obtain⟨N,j,k⟩:=KP E;cases j
    have:=IR k;subst this;refine⟨b,G,Om,λc g r=> ?_⟩;have l:(m:K)<=n:=by omega
    simp[Instr.sliceBounds,Instr.sliceBound,asIntOf,l,b]
 .rename_i H Q
  obtain⟨b,e⟩:=DL i
  cases e
  have b:=AdT b
  cases h with
  |some _=>grind
  |none=>cases f with
   |none=>grind
   |some J=>
    obtain⟨N,j,k⟩:=KP E;cases j
    have:=IR k;subst this;refine⟨Om,b,λp=>(by cases p),λc g r=> ?_⟩;have l:(d:K)<=c:=by omega
    have q:d<=c:=by omega
    cases g<;>simp[Instr.sliceBounds,Instr.sliceBound,asIntOf,l,q]
 .rename_i H S V Q
  obtain⟨b,e⟩:=DL i
  cases e
  simp only[AdO]at b
  have e:=AdT b.2
  have b:=AdT b.1
  cases h with
  |none=>grind
  |some J=>cases f with
   |none=>grind
   |some W=>
    obtain⟨N,X,j,k,P⟩:=cS E;cases j
    have:=IR k;subst this;have:=IR P;subst this;refine⟨e,b,λp=>(by cases p),λc g r=> ?_⟩;have l:(d:K)<=c:=by omega
    have q:d<=c:=by omega
    have R:(m:K)<=d:=by omega
    cases g<;>simp[Instr.sliceBounds,Instr.sliceBound,asIntOf,l,R,q,e]
 grind
variable(z:TR t v a) (s:HR t u w)
theorem vP(z:TR t v a)(s:HR t u w){f:Oper}{r l:BQ}{x:Operand}{j:Rd}{k:C Od}{g:F}(i:f.op=.convert r l x)(c:DS y f=A (.rd j k))(o:j.ev (AU v k) u=A g):GV y t u w f a g:=by
 unfold DS at c;rw[i]at c;simp only[]at c;split at c
 .rename_i H e n m;obtain⟨E,p,b⟩:=JD c;cases b
  have h:=Gi z p;have d:Ho e [E.ev v]=A g:=o;unfold Ho at d;split at d
  .rename_i G q b;injection b with b _;rw[b]at h;cases d
   rw[KQ];exact⟨.int e (e.wrap q),by simp[execOp,i,(IR h),convert,run_underlying n,run_underlying m,Conv.intToInt],.i _ _⟩
  grind
 grind
end
theorem fq{e:D}:∀{d:C (C F)} c {b:C F},(∀b∈d,b.l=e)->d[c]? =A b->b<+:d.flatten.d (c*e)
 |[],c,b,_,f=>by grind
 |g::d,0,b,i,f=>by grind
 |g::d,c+1,b,i,f=>by
  have h:d[c]? =A b:=by grind
  rw[Ae8,show(c+1)*e=g.l+c*e by grind,Aga];exact(fq c P h)
theorem fr{d:D}:∀{c:C (C F)} b,(∀e∈c,e.l=d)->(c.d b).flatten=c.flatten.d (b*d)
 |c,0,_=>by simp
 |[],b+1,_=>by simp
 |g::c,b+1,f=>by rw[Afk,(fr b (λe h=>f e (by simp[h]))),Ae8,show(b+1)*d=g.l+b*d by rw[AeH,(f g (by simp))];omega,Aga]
theorem Qu{e:D}:∀{b:C (C F)},(∀c∈b,c.l=e)->b.flatten.l=b.l*e
 |[],_=>by simp
 |g::b,d=>by rw[Ae8,AdY,(Qu (λc f=>d c (by simp[f]))),d g (by simp),Aec,AeH];omega
theorem Z0(b:C (C F))(c:D):(b.t c).flatten<+:b.flatten:=by
 conv=>rhs;rw[<-Afv c b,List.flatten_append]
 grind
theorem Aa5{f:D}{b:C (C F)}(d e:D)(h:∀c∈b,c.l=f):((b.t e).d d).flatten<+:b.flatten.d (d*f):=by rw[fr d (λc g=>h c (Afl g))];exact X6 (Z0 b e) _
section
variable{y:Program} {t:AT} {u:Fm} {a:Act} {v:G} {w:By}
variable(z:TR t u a) (s:HR t v w)
theorem vU(z:TR t u a)(s:HR t v w){l:Oper}{xd:BQ}{xe W:Operand}{I:Rd}{n:C Od}{m:F}(j:l.op=.indexAddr xd xe W)(c:DS y l=A (.rd I n))(T:I.ev (AU u n) v=A m):GV y t v w l a m:=by
 unfold DS at c;rw[j]at c;simp only[]at c;split at c
 .rename_i xj x;split at c
  .rename_i H E;split at c
   .obtain⟨xn,S,b⟩:=FY c;cases b
    obtain⟨N,xo,b,q,r⟩:=MX z S;have d:AR H (AU u n)=A m:=T;rw[b]at d;unfold AR at d;split at d
    .rename_i xh xc xb P xf X e b;cases b
     obtain⟨f,i⟩:=DL d;cases i
     simp only[AdO]at f;have R:e<xb:=by have:=f.1;rwa[Afh]at this
     have U:=AdQ f.2;subst U;rcases IS q with⟨h,xi,Q,_,_,_,g⟩|⟨xg,xl,_,g⟩;.refine⟨.pointer (A ⟨h.r,h.sh+(xc+e*xf),O⟩),?_,.p _ _ h Q⟩;simp[execOp,j,g,(IR r),Instr.indexAt,run_underlying x,asIntOf,R,HX E,My,AeM]
     .omega
    .rename_i xk X e b;cases b
     split at d
     .rename_i N k;obtain⟨f,i⟩:=DL d;cases i
      rcases RO q with⟨xa,J,M,p,o,P,Y,Z,G,xm,g⟩|⟨rfl,_⟩|⟨rfl,_⟩
      .have V:o=H:=by rw[<-(AdQ f),G N (AdU k)]
       subst V;refine⟨.pointer (A ⟨J,M+(p+e*o),O⟩),?_,.pi _ xa J M (p+e*o) Y ?_⟩;.simp[execOp,j,g,(IR r),Instr.indexAt,run_underlying x,asIntOf,(AdN.1 k).1,HX E,My,AeM]
       .rw[<-Afi];exact Ae7 (fq e G k) (X6 Z _)
      .grind
      grind
     grind
    grind
   grind
  grind
 grind
theorem vT(z:TR t u a)(s:HR t v w){j:Oper}{J:BQ}{M I:Operand}{o:Rd}{m:C Od}{l:F}(n:j.op=.index J M I)(c:DS y j=A (.rd o m))(H:o.ev (AU u m) v=A l):GV y t v w j a l:=by
 unfold DS at c;rw[n]at c;simp only[]at c;split at c
 .rename_i r;obtain⟨R,x,b⟩:=FY c;cases b
  obtain⟨T,U,b,f,g⟩:=MX z x;have d:Hq (AU u m)=A l:=H;rw[b]at d;unfold Hq at d;split at d
  .rename_i S Q i b;cases b
   obtain⟨e,q,N⟩:=OR f;subst q;split at d
   .rename_i P h
    cases d
    rw[Aeo]at h
    cases E:e.data.l[i]?with
    |none=>grind
    |some k=>
     rw[E]at h;cases h
     have G:e[i]? =A k:=by
      have f:e.data[i]? =A k:=by grind
      obtain⟨g,p⟩:=Array.getElem?_eq_some_iff.1 f;exact getElem?_eq_some_iff.2 ⟨g,p⟩
     refine⟨.int .u8 k.toNat,?_,.i _ _⟩;simp[execOp,n,N,(IR g),Instr.index,run_underlying r,asIntOf,G]
   grind
  grind
 grind
theorem v2(z:TR t u a)(s:HR t v w){xa:Oper}{xD:BQ}{xo:Operand}{Y W:Ae Operand}{xn:Rd}{xp:C Od}{xf:F}(X:xa.op=.slice xD xo Y W O)(n:DS y xa=A (.rd xn xp))(xw:xn.ev (AU u xp) v=A xf):GV y t v w xa a xf:=by
 unfold DS at n;rw[X]at n;simp only[]at n;split at n;.grind
 .rename_i b R;have xu:Dz (xo::(Y.toList++W.toList))=A b:=R;obtain⟨xE,xF,xq,xr,rfl⟩:=Vq xu;have m:=Gi z xq;have g:=OD z xr;rw[Aes]at g;have xg:∀q:Ae Operand,q.toList.m a.eval=(q.map a.eval).toList:=by intro q;cases q<;>rfl
  rw[xg,xg]at g;split at n
  .rename_i xI h;split at n
   .rename_i H i;cases n
    have G:GF H Y.isSome W.isSome (xE.ev u::AU u xF)=A xf:=xw;unfold GF at G;split at G
    .rename_i xH xm Z c Q q j;injection j with k l;rw[k]at m;rw[l]at g;obtain⟨xl,N⟩:=DL G;have xx:=AdQ xl;subst xx;split at N
     .rename_i b d E;cases N
      rcases IS m with⟨I,e,xh,xk,xj,xK,x⟩|⟨J,xk,xj,x⟩
      .have S:Z<=O7 Z c/\O7 Z c<=e:=by
        unfold O7
        grind
       obtain⟨xb,T,xc,f⟩:=Ws (y:=y) (w:=w) E (by simp) (by simp) g S.1
       by_cases M:e=b
       .subst M;refine⟨.slice (A ⟨I.r,I.sh+xm,O⟩) (d-e) (e-e),?_,?_⟩;.simp[execOp,Instr.sliceAt,Instr.slice,run_underlying h,HX i, *]
        .have k:d-e=0:=by omega
         have l:e-e=0:=by omega
         rw[k,l];refine .Yl _ _ _ _ _ _ xh ?_;unfold Mb;rcases xj with rfl|rfl;.exact .i B
         .right;simp
       .refine⟨.slice (A ⟨I.r,I.sh+(xm+b*Q),O⟩) (d-b) (e-b),?_,?_⟩;.simp[execOp,X,x,Instr.sliceAt,Instr.slice,run_underlying h,(f e L S.2),HX i,M,My,AeM]
        .refine .Z _ _ _ _ _ I _ xh (by omega) ?_ ?_;.unfold Mb;grind
         .have:b*Q+(e-b)*Q=e*Q:=by rw[<-AeH];grind
          omega
      .subst xk;have S:O7 0 c=0:=by unfold O7;grind
       obtain⟨xb,T,xc,f⟩:=Ws (y:=y) (w:=w) E (by simp) (by simp) g (AeA _);rw[S]at T f;have r:=f 0 L (CK _);have p:b=0:=by omega
       have o:d=0:=by omega
       subst p o;refine⟨.slice (A J) 0 0,?_,?_⟩;.simp[execOp,Instr.sliceAt,Instr.slice,run_underlying h,HX i, *]
       .obtain⟨xG,xs⟩:=kz m;refine .Yl _ _ _ _ _ _ xs ?_;unfold Mb;grind
     grind
    .rename_i q j;injection j with k l;rw[k]at m;rw[l]at g;have x:=KO m;split at G
     .rename_i xz E;obtain⟨b,d⟩:=xz;cases G
      obtain⟨xb,T,xc,f⟩:=Ws (y:=y) (w:=w) E (by simp) (by simp) g (CK _);have r:=f 0 L (CK _);have p:b=0:=by omega
      have o:d=0:=by omega
      subst p o;exact⟨.slice O 0 0,by simp[execOp,Instr.sliceAt,Instr.slice,run_underlying h,HX i, *],.sn⟩
     grind
    .rename_i V q j;injection j with k l;rw[k]at m;rw[l]at g;obtain⟨xl,N⟩:=DL G;have xv:∀j∈V,j.l=H:=λj xJ=>AdQ P;split at N
     .rename_i b d E;cases N
      obtain⟨xb,T,xc,f⟩:=Ws (y:=y) (w:=w) E (by simp) (by simp) g (CK _);rcases RO m with⟨xy,xd,xe,U,Q,c,xA,xB,xL,xC,x⟩|⟨rfl,J,c,x⟩|⟨rfl,x⟩
      .have r:=f c L xC;by_cases M:c=b
       .subst M;have xt:(V.t d).d c=[]:=by apply Ad1;simp;omega
        refine⟨.slice (A ⟨xd,xe+U,O⟩) (d-c) (c-c),?_,?_⟩;.simp[execOp,Instr.sliceAt,Instr.slice,run_underlying h,HX i, *]
        .rw[xt,show d-c=0 by omega];exact .OM _ _
       .refine⟨.slice (A ⟨xd,xe+(U+b*H),O⟩) (d-b) (c-b),?_,?_⟩;.simp[execOp,X,x,Instr.sliceAt,Instr.slice,run_underlying h,r,HX i,M,My,AeM]
        .have R:((V.t d).d b).l=d-b:=by grind
         rw[<-R];refine .CV _ xy xd xe (U+b*H) H (c-b) xA ?_ P (by rw[R];omega);rw[<-Afi];exact Ae7 (Aa5 b d xv) (X6 xB _)
      .have r:=f c L (AeA _);simp only[Afw]at r;have p:b=0:=by grind
       have o:d=0:=by grind
       subst p o;by_cases xi:c=0;.subst xi;exact⟨.slice (A J) 0 0,by simp[execOp,Instr.sliceAt,Instr.slice,run_underlying h,HX i, *],by simpa using VR.OM J 0⟩
       .exact⟨.slice (A (J.add (0*H))) 0 c,by simp[execOp,Instr.sliceAt,Instr.slice,run_underlying h,HX i,xi, *],by simpa using VR.OM _ c⟩
      .have r:=f 0 L (CK _);simp only[Afw]at r;have p:b=0:=by grind
       have o:d=0:=by grind
       subst p o;exact⟨.slice O 0 0,by simp[execOp,Instr.sliceAt,Instr.slice,run_underlying h,HX i, *],by grind⟩
     grind
    grind
   grind
  grind
end
