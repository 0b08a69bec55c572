/- Part of the proof. -/
import Derived.Laws.Cells
import Derived.Laws.IdiomCopy
import Derived.Laws.Tables
import Derived.Laws.Append
import Derived.Laws.StructEq
import Derived.Laws.Cover3
import Derived.Laws.Pointers
import Derived.WideLaws
import Derived.IntWalk
import Derived.Test.YtmnfpdedgnfeiaaGreatMaa
set_option linter.all false
noncomputable section
open Option renaming some->A,none->O,bind->Option.b
open _root_ renaming rfl->B,List->C,Nat->D,Int->K,if_neg->Ad,if_pos->Af,Option->Aj,Bool->Ak,cond->An,absurd->A_,Array->Br
open Bool renaming true->L,false->Ac
open Decidable renaming decide->Au
open Nat renaming beq->Bb,ble->Co,le_refl->C6
open Go renaming Value->Bl,World->BH,TypeId->B9
open List renaming length->List.l,map->List.m,take->List.t,drop->List.d,toArray->List.a,flatMap->List.f
open Go.IntKind renaming i64->Go.IntKind.n
open Array renaming toList->Array.l,size->Array.z
open Eq renaming trans->Eq.t,symm->Eq.s
open Or renaming inl->Or.i,inr->Or.j
open Int renaming toNat->Int.n
namespace Go.Fg
mutual
theorem dI{t:A0}:∀c {e:Bl}{d:F},UF c e=A d->VR t d e
 |0,_,_,b=>by simp[UF]at b
 |c+1,e,d,b=>by
  unfold UF at b;split at b;.cases b;exact .b _
  .cases b;exact .i _ _
  .cases b;exact .s _ _ B
  .cases b;exact .pn
  .cases b;exact .sn
  .cases b;exact .mn
  .cases b;exact .fn
  .cases b;exact .LL
  .rename_i p q o;split at b
   .rename_i l;cases b
    obtain⟨f,g,k⟩:=l;have i:=Ake g;have j:=Ake k;subst i j;exact .f _ f _ _ .nil
   grind
  .rename_i m;split at b;.rename_i n h;cases b;exact .S _ _ (dJ c h)
   grind
  .rename_i m;split at b;.rename_i n h;cases b;exact .AC _ _ (dJ c h)
   grind
  grind
theorem dJ{t:A0}:∀c {e:C Bl}{d:C F},SG c e=A d->BJ t d e
 |0,_,_,b=>by simp[SG]at b
 |c+1,[],d,b=>by simp[SG]at b;subst b;exact .nil
 |c+1,e::r,d,b=>by
  unfold SG at b;split at b;.rename_i s x f g;cases b;exact .cons _ _ _ _ (dI c f) (dJ c g)
  grind
end
section
variable{v:Program} {t:A0} {y:Fm} {a:Act} {u:G} {w:BH}
theorem GQ(f:TR t y a){d:Operand}{e:Od}(b:od d=A e):VR t (e.ev y) (a.eval d):=by
 unfold od at b;split at b
 .rename_i h;split at b
  .rename_i c;cases b
   exact f h (by simpa[AjR]using c)
  grind
 .rename_i j;split at b;.rename_i d g;cases b;exact dI _ g
  grind
 .grind
 .rename_i i;split at b
  .rename_i c;cases b
   exact .f _ (by simpa[AjR]using c) _ _ .nil
  grind
theorem Pz(e:TR t y a):∀{d:C Operand}{c:C Od},D6 d=A c->BJ t (A3 y c) (d.m a.eval)
 |[],c,b=>by simp[D6]at b;subst b;exact .nil
 |j::d,c,b=>by
  unfold D6 at b;split at b;.rename_i h i f g;cases b;exact .cons _ _ _ _ (GQ e f) (Pz e g)
  grind
theorem Ku{c:Rd}{d:Operand}{b:Io}(f:MF c d=A b):∃e,od d=A e/\b=.rd c [e]:=by unfold MF at f;grind
theorem Gt{c:Rd}{d:C Operand}{b:Io}(f:Iw c d=A b):∃e,D6 d=A e/\b=.rd c e:=by unfold Iw at f;grind
theorem Rx{c:Al}{d:C Operand}{b:Io}(f:Vh c d=A b):∃e,D6 d=A e/\b=.al c e:=by unfold Vh at f;grind
theorem KH{c:Ef}{d:C Operand}{b:Io}(f:OX c d=A b):∃e,D6 d=A e/\b=.ef c e:=by unfold OX at f;grind
theorem S7{b:Ak}{c:Bl}(d:VR t (.b b) c):c=.bool b:=by cases d;rfl
theorem Jo{b:IntKind}{c:K}{d:Bl}(e:VR t (.i b c) d):d=.int b c:=by cases e;rfl
theorem PS{c:Aa}{d:D}{e:Bl}(f:VR t (.p c d) e):∃b,t c=A b/\e=.pointer (A ⟨b.r,b.sh+d,O⟩):=by cases f;grind
theorem Rg{b:C F}{d:Bl}(e:VR t (.S b) d):∃c,BJ t b c.l/\d=.agg c:=by cases e;grind
theorem na{b:C F}{d:Bl}(e:VR t (.AC b) d):∃c,BJ t b c.l/\d=.tuple c:=by cases e;grind
theorem PU{c:C D}{d:Bl}(e:VR t (.s c) d):∃b,b.data.l.m UInt8.toNat=c/\d=.string b:=by cases e;grind
theorem U6{b:Bl}(c:VR t .pn b):b=.pointer O:=by cases c;rfl
theorem Lp{b:Bl}(c:VR t .sn b):b=.slice O 0 0:=by cases c;rfl
theorem eV{b:Bl}(c:VR t .mn b):b=.map O:=by cases c;rfl
theorem U5{c:Aa}{d:Bl}(e:VR t (.m c) d):∃b,t c=A b/\d=.map (A b.r):=by cases e;grind
theorem Jp{h:Aa}{f e d i:D}{g:Bl}(k:VR t (.Z h f e d i) g):(∃b c,t h=A b/\e<=c/\(d=0\/d=c+1)/\b.sh+f+c*i<=b.sz/\g=.slice (A ⟨b.r,b.sh+f,O⟩) e c)\/(∃j,e=0/\(d=0\/d=1)/\g=.slice (A j) 0 0):=by
 cases k
 .rename_i b c l m n o;exact .i ⟨b,c,l,m,n,o,B⟩
 grind
theorem S8{c:C F}{g:Bl}(h:VR t (.pi c) g):∃d e f b,t.im (.c d) e f/\c<+:d.d b/\g=.pointer (A ⟨e,f+b,O⟩):=by cases h;grind
theorem S9{c:C (C F)}{h:Bl}(i:VR t (.CZ c) h):(∃e f g d j b,t.im (.c e) f g/\c.flatten<+:e.d d/\(∀l∈c,l.l=j)/\c.l<=b/\h=.slice (A ⟨f,g+d,O⟩) c.l b)\/(c=[]/\∃k b,h=.slice (A k) 0 b)\/(c=[]/\h=.slice O 0 0):=by
 cases i
 .rename_i e f g d j b i n o m;exact .i ⟨e,f,g,d,j,b,i,n,o,m,B⟩
 .rename_i a b;exact .j (.i ⟨B,a,b,B⟩)
 .exact .j (.j ⟨B,B⟩)
theorem m9{b c:C F}{d:Bl}(f:VR t (.mi b c) d):(∃e,t.im (.m b c) e 0/\d=.map (A e))\/(b=[]/\c=[]/\d=.map O):=by cases f<;>grind
theorem m_{b:Aa}{g f d i:D}{h:Bl}(e:VR t (.Z b g f d i) h):∃c,t b=A c:=by cases e<;>exact⟨_,‹_›⟩
theorem Lq{e:F}{c:C Bl}(d:BJ t [e] c):∃b,c=[b]/\VR t e b:=by cases d;rename_i b c d f;cases f;grind
theorem eW{d e:F}{b:C Bl}(c:BJ t [d,e] b):∃f g,b=[f,g]/\VR t d f/\VR t e g:=by cases c;rename_i i b c h;obtain⟨_⟩:=Lq h;grind
theorem Nh(d c b:D):(⟨d,c,O⟩:Addr).add b=⟨d,c+b,O⟩:=by unfold Addr.add;grind
theorem gi{b:Aa}{d:D}{c:C F}(e:u.I b=A (d,c)):u.N b=A (.I d c)\/u.N b=A (.rc d c):=by unfold G.I Eg at e;grind
theorem RH(e:HR t u w){d:Aa}{h:D}{g:C F}{c:FE}(b:u.I d=A (h,g))(f:t d=A c):CR t h g c w:=by
 rcases gi b with b|b;.exact e.BB d _ c b f
 .exact e.BB d _ c b f
theorem qv{b:Aa}{d:D}{c:C F}(e:Vv (u.N b)=A (d,c)):u.N b=A (.I d c):=by unfold Vv at e;grind
theorem je(m:HR t u w){e:C F}{h i c d:D}{g:C F}{f:F}(k:t.im (.c e) h i)(o:g<+:e.d c)(E:g[d]? =A f):∃b,w.cell? ⟨h,i+c+d,O⟩=A b/\VR t f b:=by
 obtain⟨p,q,s,x,z,l⟩:=m.E4 _ _ _ k;obtain⟨G,n⟩:=o;have:e[c+d]? =A f:=by rw[<-AjY,<-n,Ajo P];omega
 obtain⟨b,r,j⟩:=l _ _ this;refine⟨b,?_,j.Av t.XW⟩;unfold World.cell?;grind
theorem jf(p:HR t u w){f:C F}{g e c:D}{b:C F}(n:t.im (.c f) g e)(r:b<+:f.d c):∃k,BJ t b k/\∀d,d.heap=w.heap->(loadCells ⟨g,e+c,O⟩ b.l).run v d=.ok k.a d:=by
 obtain⟨h,z,G,H,I,o⟩:=p.E4 _ _ _ n;obtain⟨Q,i⟩:=r;have J:b.l<=f.l-c:=by have:=Aij List.length i;grind
 by_cases q:b.l=0
 .have:b=[]:=by simpa using q
  subst this;exact⟨[],.nil,λd _=>by rfl⟩
 .refine⟨(h.l.d (e+c)).t b.l,?_,?_⟩
  .refine BJ.UG (by simp;omega) λs l j=> ?_;have:f[c+s]? =A l:=by rw[<-AjY,<-i,Ajo (Aid.1 j).1];omega
   obtain⟨x,E,m⟩:=o _ _ this;refine⟨x,?_,m.Av t.XW⟩;grind
  .intro d M;have:=run_loadCells_list (P:=v) d ⟨g,e+c,O⟩ ((h.l.d (e+c)).t b.l) (λN l j=>by rw[Nh];unfold World.cell?;grind)
   grind
theorem cK(k:HR t u w){e:C F}{f g d:D}{c:C F}(h:t.im (.c e) f g)(l:c<+:e.d d):∃b,BJ t c b/\(loadCells ⟨f,g+d,O⟩ c.l).run v w=.ok b.a w:=by obtain⟨b,i,j⟩:=jf k h l;exact⟨b,i,j w B⟩
theorem lF{h:Aa}{f c:D}{g:C F}(e:u.AU h f c=A g):∃b d,u.I h=A (b,d)/\f+c<=b/\(c=b->d.l=b->f=0->g=(d.d f).t c)/\(c≠b->g=(d.d f).t c)/\(c=b->g=d):=by
 unfold G.AU at e;split at e
 .rename_i b d k
  cases i:Co (f+c) b with
  |false=>grind
  |true=>
   rw[i]at e;refine⟨b,d,k,(Aim i),?_⟩;by_cases j:c=b;.subst j;rw[AiG]at e;grind
   .rw[G0 j]at e;cases e
    exact⟨Om,λ_=>by rw[Ra,Yc];rfl,Om⟩
 grind
theorem ZX(k:HR t u w){f:Aa}{d c:D}{e:C F}{b:FE}(i:u.AU f d c=A e)(l:t f=A b):∃h,BJ t e h/\e.l=c/\(loadCells ⟨b.r,b.sh+d,O⟩ c).run v w=.ok h.a w:=by
 obtain⟨z,x,j,_⟩:=lF i;obtain⟨p,q,g,_⟩:=RH k j l;have m:e.l=c:=by grind
 refine⟨(g.l.d (b.sh+d)).t c,?_,m,?_⟩;.refine BJ.UG (by grind) λr o n=> ?_;grind
 .have:=run_loadCells_list (P:=v) w ⟨b.r,b.sh+d,O⟩ ((g.l.d (b.sh+d)).t c) (λs o n=>by
   rw[Nh]
   unfold World.cell?
   grind)
  grind
theorem lE(k:HR t u w){e:Aa}{g:D}{h:F}{d:FE}(b:u.AA e g=A h)(l:t e=A d):∃c,VR t h c/\w.cell? ⟨d.r,d.sh+g,O⟩=A c:=by
 unfold G.AA at b;split at b;.rename_i H z f;obtain⟨o,p,m,f,E,x,q,r,s,j⟩:=RH k f l;rw[QQ]at b;obtain⟨c,n,i⟩:=j _ _ b;exact⟨c,i,by unfold World.cell?;grind⟩
 grind
end
section
variable{t:Program} {u:A0} {y:Fm} {a:Act} {v:G} {w:BH}
theorem R7{d:B9}{c:D}(e:sz t d=A c):∃b,t.info? d=A b/\b.size=c:=by unfold sz at e;grind
theorem Iz{c:B9}{b:D}(d:sz t c=A b):(sizeOf c).run t w=.ok b w:=by obtain⟨f,e,rfl⟩:=R7 d;simp[sizeOf,typeInfo,e]
theorem V1{d:B9}(c:Ey t d=L):(isAgg d).run t w=.ok L w:=by
 unfold Ey at c;split at c;.rename_i e b;simp[isAgg,run_underlying b]
 .rename_i f g b;simp[isAgg,run_underlying b]
 grind
theorem V0{b:B9}{c:TypeDesc}(d:Ey t b=Ac)(e:t.underlying b=A c):(isAgg b).run t w=.ok Ac w:=by unfold Ey at d;rw[e]at d;cases c<;>simp_all[isAgg,run_underlying e]
theorem Rh{b:F}{c:Bl}(d:VR u b c):BJ u b.I c.cells.l:=by
 cases d<;>first
  |(rename_i f g e;exact e)
  |(refine .cons _ _ _ _ ?_ .nil;constructor<;>assumption)
theorem Rm{e:B9}{f:F}(b:Lt t e=A f):∃c d,t.info? e=A c/\c.zero=A d/\VR u f d:=by
 unfold Lt at b;split at b
 .rename_i c g;split at b;.rename_i d h;exact⟨c,d,g,h,dI _ b⟩
  grind
 grind
theorem Z6{c:B9}{b:TypeInfo}{d:Bl}(e:t.info? c=A b)(f:b.zero=A d):(zeroValue c).run t w=.ok d w:=by simp[zeroValue,typeInfo,e,f]
theorem Acf{c:B9}{e:D}{d:Br Bl}{b:D}(f:Ey t c=L)(g:sz t c=A e):(part c d b).run t w=.ok (.agg (d.extract b (b+e))) w:=by simp[part,V1 f,Iz g]
theorem k9{b:B9}{f:TypeDesc}{c:Br Bl}{d:D}{e:Bl}(g:Ey t b=Ac)(h:t.underlying b=A f)(i:c[d]? =A e):(part b c d).run t w=.ok e w:=by simp[part,V0 g h,i]
theorem su(e:D):∀(d:C Bl)(c:Br Bl),e+d.l<=c.z->∀b,((d.zipIdx 0).foldl (λc g=>c.setIfInBounds (e+g.2) g.1) c)[b]? =if e<=b/\b<e+d.l then d[b-e]?else c[b]? :=by
 have k:∀(d:C Bl) f (c:Br Bl),e+f+d.l<=c.z->∀b,((d.zipIdx f).foldl (λc g=>c.setIfInBounds (e+g.2) g.1) c)[b]? =if e+f<=b/\b<e+f+d.l then d[b-(e+f)]?else c[b]? :=by
  intro d
  induction d with
  |nil=>intro f c h b;simp;omega
  |cons l d i=>
   intro f c h b;simp only[List.zipIdx_cons,Ajp,AiD]at h⊢;rw[i (f+1) _ (by grind) b];by_cases j:b=e+f;.grind
   grind
 grind
theorem bT(F:D->Aj (D×D)):∀g c p f i d,RR c p f=A i->BJ u p (g.m (·.2))->BJ u f d.l->c.l=g.l->(∀(e:D) b h,c[e]? =A b->g[e]? =A h->F h.1=A b)->FM f.l c=L->∃o,Instr.fill F d g=A o/\BJ u i o.l
 |[],c,p,f,i,d,r,E,n,M,z,x=>by
  cases c with
  |cons _ _=>grind
  |nil=>
   cases E
   cases r
   exact⟨d,B,n⟩
 |(U,j)::g,c,p,f,i,d,r,E,n,M,z,x=>by
  cases c with
  |nil=>simp at M
  |cons b c=>
   cases E
   rename_i l P T S
   simp only[FM,Aie]at x
   have Z:=Aim x.1
   have J:An (Bb (BK l.I) b.2) (RR c P (DJ b.1 l.I f)) O=A i:=r
   cases H:Bb (BK l.I) b.2 with
   |false=>grind
   |true=>
    rw[H]at J;have I:=Aii H;rw[HE]at I;have s:=Rh T;have xb:j.cells.z=b.2:=by rw[<-I,<-s.length];simp
    have xc:d.z=f.l:=by rw[<-n.length];simp
    have R:BJ u (DJ b.1 l.I f) ((j.cells.l.zipIdx 0).foldl (λq m=>q.setIfInBounds (b.1+m.2) m.1) d).l:=by
     have xa:((j.cells.l.zipIdx 0).foldl (λq m=>q.setIfInBounds (b.1+m.2) m.1) d).z=d.z:=by
      generalize j.cells.l.zipIdx 0=N
      generalize d=h
      induction N generalizing h with
      |nil=>rfl
      |cons a N xd=>grind
     refine BJ.UG (by rw[Wl];grind) λe xe k=> ?_;rw[cw _ _ _ _ (by omega)]at k;rw[Akf,(su b.1 j.cells.l d (by grind) e),s.length];by_cases G:b.1<=e/\e<b.1+l.I.l;.rw[Af G]at k⊢;exact s.N k
     .rw[Ad G]at k⊢;obtain⟨_⟩:=n.N k;grind
    obtain⟨o,W,Q⟩:=bT F g c P _ i _ J S R (by grind) (λe V h X Y=>z (e+1) V h (by grind) (by grind)) (by rw[Wl];grind);refine⟨o,?_,Q⟩;unfold Instr.fill;simp only[(z 0 b (U,j) (by simp) (by simp))];rw[Ad (by grind),<-Array.foldl_toList,Array.toList_zipIdx];omega
end
theorem Ts{d e:Aj Ak}{c:Ak}(f:KD d e=A c):∃a b,d=A a/\e=A b/\c=(a&&b):=by unfold KD at f;grind
theorem OY:∀{b:C D}{c d:C F}{e:Ak},G2 b c d=A e->c.l=b.l/\d.l=b.l
 |[],[],[],_,_=>⟨B,B⟩
 |[],[],_::_,_,a=>by cases a
 |[],_::_,_,_,a=>by cases a
 |_::_,[],_,_,a=>by cases a
 |_::_,_::_,[],_,a=>by cases a
 |k::b,g::c,h::d,e,a=>by obtain⟨l,m,i,f,j⟩:=Ts (a);simp[(OY f)]
theorem g3:∀{a f:C D}{e b:C F}{c:Ak},G2 (a++f) e b=A c->∃g i,G2 a (e.t a.l) (b.t a.l)=A g/\G2 f (e.d a.l) (b.d a.l)=A i/\c=(g&&i)
 |[],_,e,b,c,d=>⟨L,c,by rfl,by grind,by simp⟩
 |h::a,f,[],b,c,d=>by cases d
 |h::a,f,_::_,[],c,d=>by cases d
 |h::a,f,j::e,k::b,c,d=>by obtain⟨g,i,n,o,s⟩:=Ts (d);obtain⟨p,q,l,m,r⟩:=g3 o;refine⟨g&&p,q,?_,m,by grind⟩;show KD (Ie h j k) (G2 a (e.t a.l) (b.t a.l))=_;rw[n,l];cases g<;>rfl
theorem fY{b c:ByteArray}:(b.data.l.m UInt8.toNat==c.data.l.m UInt8.toNat)=(b.toList==c.toList):=by
 rw[ByteArray.toList_eq,ByteArray.toList_eq]
 generalize b.data.l=h
 generalize c.data.l=a
 induction h generalizing a with
 |nil=>cases a<;>rfl
 |cons d h i=>
  cases a with
  |nil=>rfl
  |cons e a=>
   have f:(d.toNat==e.toNat)=(d==e):=by
    by_cases g:d=e;.grind
    .rw[beq_eq_false_iff_ne.2 g,beq_eq_false_iff_ne.2 (λf=>g (UInt8.toNat_inj.1 f))]
   grind
section
variable{t:Program} {u:A0}
theorem TO{e:D}{n o:F}{h i:Bl}{g:Ak}(c:Ie e n o=A g)(j:VR u n h)(k:VR u o i):(e=0/\∃f a b,h=.int f a/\i=.int f b/\g=(a==b))\/(e=1/\∃a b,h=.bool a/\i=.bool b/\g=(a==b))\/(e=2/\∃a b,h=.string a/\i=.string b/\g=(a.toList==b.toList)):=by
 unfold Ie at c;split at c
 .rename_i f a m b
  cases d:Bb e 0 with
  |false=>grind
  |true=>
   rw[d]at c
   cases l:H8 f m with
   |false=>grind
   |true=>
    rw[l]at c;have:=(Pd f m).1 l;subst this;cases c
    exact .i ⟨Aii d,f,a,b,Jo j,Jo k,Lb a b⟩
 .rename_i a b
  cases d:Bb e 1 with
  |false=>grind
  |true=>rw[d]at c;cases c;exact .j (.i ⟨Aii d,a,b,S7 j,S7 k,B⟩)
 .rename_i a b
  cases d:Bb e 2 with
  |false=>grind
  |true=>rw[d]at c;cases c;obtain⟨r,p,rfl⟩:=PU j;obtain⟨s,q,rfl⟩:=PU k;refine .j (.j ⟨Aii d,r,s,B,B,?_⟩);rw[NS,<-p,<-q,fY]
 grind
def LJ(t:Program)(c:B9)(a:Br Bl)(b:Bl):Prop:=if Ey t c=L then b=.agg a else a= #[b]
theorem dW{a:B9}{e:D}{c:Br Bl}{b:D}(g:BH){h:TypeDesc}(j:t.underlying a=A h)(k:sz t a=A e)(l:b+e<=c.z)(i:Ey t a=Ac->e=1):∃f,(part a c b).run t g=.ok f g/\LJ t a (c.extract b (b+e)) f:=by
 cases d:Ey t a with
 |true=>exact⟨_,Acf d k,by unfold LJ;rw[Af d]⟩
 |false=>have:=i d;subst this;refine⟨c[b],k9 d j (by grind),?_⟩;unfold LJ;grind
theorem R_:∀d a b,IJ t d a=A b->(∃f,t.underlying a=A f)/\sz t a=A b.l/\(Ey t a=Ac->b.l=1)
 |0,_,_,c=>by cases c
 |d+1,a,b,c=>by
  unfold IJ at c;have j:∀e,(if(sz t a==A 1)=L then A [e]else O)=A b->sz t a=A b.l/\(Ey t a=Ac->b.l=1):=by grind
  split at c;.grind
  .grind
  .grind
  .rename_i i g;refine⟨⟨_,g⟩,?_,λh=>by unfold Ey at h;grind⟩;grind
  grind
def e7(t:Program)(k:D)(a:B9)(b:C D):Prop:=
 ∀(f:BH)(u:A0)(c d:C F)(h j:Br Bl)(g i:Bl)(e:Ak),
  sz t a=A b.l->BJ u c h.l->BJ u d j.l->LJ t a h g->LJ t a j i->G2 b c d=A e->(Op.equalIn k a g i).run t f=.ok e f
theorem g_(m:D)(s:B9->Aj (C D))(k l:Br Bl){u:A0}(H:∀e c,s e=A c->e7 t m e c)(x:∀e c,s e=A c->(∃m,t.underlying e=A m)/\sz t e=A c.l/\(Ey t e=Ac->c.l=1))(j:BH):
  ∀n a c h i r,T_ s n=A c->TJ t a n=L->a<=k.z->a<=l.z->BJ u h (k.l.d a)->BJ u i (l.l.d a)->G2 c h i=A r->
   (Op.eqFields m k l n).run t j=.ok r j
 |[],a,c,h,i,r,g,o,Z,xa,y,z,p=>by
  cases g
  have:r=L:=by
   obtain⟨U,xi⟩:=OY p
   cases h with
   |nil=>cases i with
    |nil=>cases p;rfl
    |cons _ _=>grind
   |cons _ _=>simp at U
  subst this;simp[Op.eqFields]
 |T::n,a,c,h,i,r,g,o,Z,xa,y,z,p=>by
  unfold T_ at g;split at g
  .rename_i b xb w S;split at g
   .rename_i X;cases g
    unfold TJ at o;split at o
    .rename_i xl v;simp only[Aie]at o;obtain⟨V,W⟩:=o;have I:=(x _ _ w).2.1;rw[v]at I;cases I
     obtain⟨xc,d,Q,R,E⟩:=g3 p;obtain⟨xj,xk⟩:=OY p;have M:a+b.l<=k.z:=by have:=y.length;grind
     have N:a+b.l<=l.z:=by have:=z.length;grind
     obtain⟨⟨xh,G⟩,_,J⟩:=x _ _ w;obtain⟨xn,xd,xe⟩:=dW j G v M J;obtain⟨xo,xf,xg⟩:=dW j G v N J;have xm:∀(f:Br Bl) d,BJ u d (f.l.d a)->BJ u (d.t b.l) (f.extract a (a+b.l)).l:=by intro f d q;rw[Array.toList_extract,Akz,show a+b.l-a=b.l by omega];exact(BJ.eK b.l q)
     have q:=H _ _ w j u _ _ _ _ _ _ _ v P P xe xg Q;have Y:T.name≠ "_" :=by simpa using X
     have F:∀(f:Br Bl) d,BJ u d (f.l.d a)->BJ u (d.d b.l) (f.l.d (a+b.l)):=by intro f d q;have:=BJ.bn b.l q;rwa[AjS]at this
     simp only[Op.eqFields,Y,ne_eq,Sem.run_bind,(Aii V),xd,xf,q,Result.andThen_ok,Sem.run_ite];cases xc
     .simp[E]
     .simpa[E]using(g_ m s k l H x j n (a+b.l) xb _ _ d S W M N (F k h y) (F l i z) R)
    grind
   grind
  grind
theorem cR(d:D):∀b c l,IJ t b c=A l->e7 t (d+b) c l
 |0,_,_,a=>by cases a
 |b+1,c,l,a=>by
  intro s u S V F G W X E Y z R i j v;have w:Ey t c=Ac->l.l=1->∃k m n,l=[k]/\VR u m W/\VR u n X/\Ie k m n=A E:=by
   intro y J;obtain⟨k,rfl⟩:=AjZ.1 J;obtain⟨T,U⟩:=OY v;obtain⟨m,rfl⟩:=AjZ.1 T;obtain⟨n,rfl⟩:=AjZ.1 U;unfold LJ at i j;rw[Ad (by grind)]at i j;subst i j;obtain⟨_,H,g⟩:=Lq z;obtain⟨_,I,h⟩:=Lq R;cases H;cases I
   obtain⟨_⟩:=Ts (v);grind
  unfold IJ at a;split at a
  .rename_i xa f;split at a
   .cases a
    obtain⟨k,m,n,r,g,h,q⟩:=w (by unfold Ey;grind) B;cases r
    rcases TO q g h with⟨_,Z,o,p,rfl,rfl,rfl⟩|⟨e,_⟩|⟨e,_⟩;.exact run_equalIn_int s (d+b) c _ _ o p f
    .cases e
    .cases e
   grind
  .rename_i f;split at a
   .cases a
    obtain⟨k,m,n,r,g,h,q⟩:=w (by unfold Ey;grind) B;cases r
    rcases TO q g h with⟨e,_⟩|⟨_,o,p,rfl,rfl,rfl⟩|⟨e,_⟩;.omega
    .exact run_equalIn_bool' s (d+b) c o p f
    omega
   grind
  .rename_i f;split at a
   .cases a
    obtain⟨k,m,n,r,g,h,q⟩:=w (by unfold Ey;grind) B;cases r
    rcases TO q g h with⟨e,_⟩|⟨e,_⟩|⟨_,o,p,rfl,rfl,rfl⟩;.omega
    .omega
    .exact run_equalIn_string s (d+b) c o p f
   grind
  .rename_i x f;split at a
   .rename_i M;split at a
    .rename_i xb Q;split at a
     .cases a
      simp only[Aie]at M;have y:Ey t c=L:=by unfold Ey;grind
      unfold LJ at i j;rw[Af y]at i j;subst i j;have N:t.fieldsOf c=x:=by unfold Program.fieldsOf;grind
      rw[show d+(b+1)=(d+b)+1 by omega,run_equalIn_struct s (d+b) c F G (by grind) P,N];exact g_ (d+b) (IJ t b) F G ((cR d b)) ((R_ b)) s x.l 0 l S V E Q P Om Om (by simpa using z) (by grind) v
     grind
    grind
   grind
  grind
end
section
variable{t:Program} {u:A0}
theorem jw{a:B9}{b:Ak}{c:C D}(d:Pe t a=A (b,c)):IJ t 8 a=A c/\b=Ey t a:=by unfold Pe at d;grind
theorem Yg{a:Ak}{c:C D}{e f:F}{j l:Bl}{d:Ak}(b:J8 a c e f=A d)(n:VR u e j)(o:VR u f l):(a=L/\∃h i k m,BJ u h k.l/\BJ u i m.l/\j=.agg k/\l=.agg m/\G2 c h i=A d)\/(a=Ac/\G2 c [e] [f]=A d/\∃g,c=[g]/\Ie g e f=A d):=by
 unfold J8 at b;split at b
 .rename_i h i
  cases a with
  |false=>grind
  |true=>obtain⟨_⟩:=Rg n;obtain⟨_⟩:=Rg o;grind
 .cases a with
  |true=>cases b
  |false=>obtain⟨p,q⟩:=OY b;obtain⟨g,rfl⟩:=AjZ.1 p.s;obtain⟨_⟩:=Ts (b);grind
theorem hC(a:Ak)(c:C D)(b:F)(d:D):G3 a c b [] d=A O:=rfl
theorem Yw(a:Ak)(d:C D)(c:F)(b:BL)(g:C BL)(e:D):G3 a d c (b::g) e=match J8 a d c b.HS with
  |some f=>if f then A (A (e,b))else G3 a d c g (e+1)
  |none=>O:=by
 show@Option.casesOn Ak (λ_=>Aj (Aj (D×BL))) (J8 a d c b.HS) O (λf=>An f (A (A (e,b))) (G3 a d c g (e+1)))=_
 cases J8 a d c b.HS<;>grind
def P1(u:A0)(f:C BL)(g:C MapEntry)(d:D):Aj (D×BL)->Aj (D×Bl)->Prop
 |none,O=>True
 |some (c,a),A (h,e)=>h=c/\d<=c/\f[c-d]? =A a/\∃b,g[c-d]? =A b/\b.val=e/\VR u a.Dv e/\b.born=a.Nm/\VR u a.HS b.key
 |_,_=>False
theorem P1.mh{d:C BL}{e:C MapEntry}{h:BL}{i:MapEntry}{f:D}{c:Aj (D×BL)}{a:Aj (D×Bl)}(b:P1 u d e (f+1) c a):P1 u (h::d) (i::e) f c a:=by
 cases c with
 |none=>cases a with
  |none=>trivial
  |some g=>cases b
 |some g=>cases a with
  |none=>cases b
  |some m=>obtain⟨r,n⟩:=g;obtain⟨s,v⟩:=m;obtain⟨k,o,p,j,q,l⟩:=b;refine⟨k,by omega,?_,j,?_,l⟩<;>grind
theorem AdX{g:B9}{d:TypeDesc}{f:D}{l n:F}{m o:Bl}{k:Ak}(b:IJ t 8 g=A [f])(e:t.underlying g=A d)(a:Ey t g=Ac)(p:Ie f l n=A k)(q:VR u l m)(r:VR u n o):Instr.sameNow d m o=A k:=by
 unfold IJ at b;rw[e]at b;have h:∀c,(if(sz t g==A 1)=L then A [c]else O)=A [f]->c=f:=by grind
 rcases TO p q r with⟨c,s,i,j,rfl,rfl,rfl⟩|⟨c,i,j,rfl,rfl,rfl⟩|⟨c,i,j,rfl,rfl,rfl⟩
 .cases d<;>first
  |(simp[Instr.sameNow];done)
  |(exfalso;have:=h _ b;omega)
  |(exfalso;cases b;done)
  |(exfalso;unfold Ey at a;rw[e]at a;cases a;done)
 .cases d<;>first
  |(simp[Instr.sameNow];done)
  |(exfalso;have:=h _ b;omega)
  |(exfalso;cases b;done)
  |(exfalso;unfold Ey at a;rw[e]at a;cases a;done)
 .cases d<;>first
  |(simp[Instr.sameNow,beq_toListBytes];done)
  |(exfalso;have:=h _ b;omega)
  |(exfalso;cases b;done)
  |(exfalso;unfold Ey at a;rw[e]at a;cases a;done)
theorem hD{l:B9}{m:TypeDesc}{k:C D}(q:IJ t 8 l=A k)(p:t.underlying l=A m)(o:Ey t l=Ac){j:F}{v:Bl}(i:VR u j v):∀d a c e,Gf u d a->G3 Ac k j d c=A e->∃f,Instr.findNow m v a c=A f/\P1 u d a c e f
 |[],a,c,e,g,b=>by
  cases g;cases b
  exact⟨O,B,Ais⟩
 |x::d,a,c,e,g,b=>by
  cases g
  rename_i n a h H J G
  rw[Yw]at b
  cases r:J8 Ac k j x.HS with
  |none=>grind
  |some w=>
   rw[r]at b
   rcases Yg r i h with⟨I,_⟩|⟨_,_,M,rfl,E⟩
   .grind
   have s:=AdX q p o E i h
   cases w with
   |true=>simp at b;subst b;refine⟨A (c,n.val),by simp[Instr.findNow,s],B,Om,by simp,n,by simp,B,H,Om,h⟩
   |false=>obtain⟨f,y,z⟩:=hD q p o i d a (c+1) e G b;exact⟨f,by simpa[Instr.findNow,s]using y,z.mh⟩
theorem hx{d:B9}{g:C D}(e:BH)(n:IJ t 8 d=A g)(G:Ey t d=L){o:F}{j:Bl}(q:VR u o j):∀f a c h,Gf u f a->G3 L g o f c=A h->∃k,(Instr.findAsking d j a c).run t e=.ok k e/\P1 u f a c h k
 |[],a,c,h,m,b=>by
  cases m;cases b
  exact⟨O,by simp[Instr.findAsking],Ais⟩
 |v::f,a,c,h,m,b=>by
  cases m
  rename_i i a p I T H
  rw[Yw]at b
  cases r:J8 L g o v.HS with
  |none=>grind
  |some l=>
   rw[r]at b
   rcases Yg r q p with⟨_,J,M,N,P,y,z,R,S,E⟩|⟨Q,_⟩
   case inr=>grind
   have s:(Op.equal d j i.key).run t e=.ok l e:=(cR 9992 8 d g n e u J M N P j i.key l (R_ 8 d g n).2.1 y z (by unfold LJ;grind) (by unfold LJ;grind) E)
   cases l with
   |true=>simp at b;subst b;refine⟨A (c,i.val),by simp[Instr.findAsking,s],B,Om,by simp,i,by simp,B,I,Om,p⟩
   |false=>obtain⟨k,w,x⟩:=hx e n G q f a (c+1) h H b;exact⟨k,by simpa[Instr.findAsking,s]using w,x.mh⟩
theorem Yx{a:B9}{q:Ak}{j:C D}(p:BH)(x:Pe t a=A (q,j)){w:F}{k:Bl}(v:VR u w k){d:C BL}{b:C MapEntry}{l:Aj (D×BL)}(o:Gf u d b)(i:G3 q j w d 0=A l):∃g,(Instr.findKey a k b).run t p=.ok g p/\P1 u d b 0 l g:=by
 obtain⟨f,rfl⟩:=jw x
 obtain⟨⟨h,e⟩,_⟩:=R_ 8 a j f
 cases c:Ey t a with
 |false=>rw[c]at i;obtain⟨g,m,n⟩:=hD f e c v d b 0 l o i;exact⟨g,by simp[Instr.findKey,run_underlying e,m],n⟩
 |true=>
  rw[c]at i
  obtain⟨g,m,n⟩:=hx p f c v d b 0 l o i
  cases o with
  |nil=>
   cases i
   exact⟨O,by simp[Instr.findKey,run_underlying e,Instr.findNow],Ais⟩
  |cons E r d b H J G I=>
   have y:Instr.findNow h k (r::b) 0=O:=by
    have:Instr.sameNow h k r.key=O:=by rcases z f c e with⟨s,rfl⟩;rfl
    simp[Instr.findNow,this]
   exact⟨g,by simpa[Instr.findKey,run_underlying e,y]using m,n⟩where
 z {a:B9} {j:C D} {h:TypeDesc} (f:IJ t 8 a=A j) (c:Ey t a=L) (e:t.underlying a=A h):∃s,h=.struct s:=by unfold IJ at f;unfold Ey at c;grind
theorem gl(f:Ak)(h:D){c:B9}{a:TypeDesc}(d:t.underlying c=A a)(b:Ey t c=Ac)(g:∀i,a≠.interface i)(j:Bl)(e:BH):(Instr.checkKey f (h+1) c j).run t e=.ok () e:=by unfold Ey at b;rw[d]at b;cases a<;>simp[Instr.checkKey,run_underlying d]at b g⊢
theorem jx{a:D}{e:B9}{g:C D}{b:TypeDesc}(c:IJ t a e=A g)(h:t.underlying e=A b):∀d,b≠.interface d:=by
 intro d f
 subst f
 cases a with
 |zero=>cases c
 |succ a=>unfold IJ at c;grind
theorem gm(o:Ak):∀d n j c,IJ t d j=A c->∀m i r f,BJ u m i.l->m.l=c.l->LJ t j i r->(Instr.checkKey o (n+d) j r).run t f=.ok () f
 |0,_,_,_,a,_,_,_,_,_,_,_=>by cases a
 |d+1,n,j,c,a,m,i,r,f,s,W,v=>by
  obtain⟨⟨z,l⟩,_⟩:=R_ (d+1) j c a
  cases k:Ey t j with
  |false=>exact gl o (n+d) l k (jx a l) r f
  |true=>
   unfold IJ at a;rw[l]at a;unfold LJ at v;rw[Af k]at v;subst v;cases z<;>simp only[]at a<;>try(unfold Ey at k;rw[l]at k;cases k;done)
   case array=>cases a
   case struct e=>
    split at a
    .rename_i E;split at a
     .rename_i xa H;split at a
      .cases a
       simp only[Aie]at E;simp only[Instr.checkKey,Sem.run_bind,run_underlying l,Result.andThen_ok];rw[<-Array.forIn_toList];have N:∀e b c,T_ (IJ t d) e=A c->TJ t b e=L->b+c.l<=i.z->(∀m:C F,True)->(forIn e PUnit.unit λg xc=>(if g.name≠ "_" then do let T<-part g.type i g.offset;Instr.checkKey o (n+d) g.type T;pure (ForInStep.yield PUnit.unit)else pure (ForInStep.yield PUnit.unit)):Sem PUnit).run t f=.ok PUnit.unit f:=by
        intro e
        induction e with
        |nil=>intro b c _ _ _ _;simp
        |cons g e Y=>
         intro b c q p I _;unfold T_ at q;split at q
         .rename_i h Z w V;split at q
          .rename_i X;cases q
           unfold TJ at p;split at p
           .rename_i xb x;simp only[Aie]at p;obtain⟨⟨U,G⟩,y,M⟩:=R_ d _ _ w;rw[x]at y;cases y;rw[Aio]at I;obtain⟨Q,R,S⟩:=dW f G x (show b+h.l<=i.z by omega) M;have J:g.name≠ "_" :=by grind
            simp only[List.forIn_cons,J,ne_eq,Aic,AiJ,Sem.run_bind,(Aii p.1),R,(gm o d n g.type h w ((m.d b).t h.l) (i.extract b (b+h.l)) Q f (by rw[Array.toList_extract,Akz,show b+h.l-b=h.l by omega];exact(BJ.eK h.l (BJ.bn b s))) (by have:=s.length;grind) S),Result.andThen_ok,Sem.run_pure]
            grind
           grind
          grind
         grind
       have:=N e.l 0 c H P (by have:=s.length;grind) P;simp at this;simp[this]
      grind
     grind
    grind
end
section
variable{z:Program} {v:A0} {t:Fm} {a:Act} {u:G} {w:BH}
theorem Ls(d:IntKind)(b:K):IW d b=d.wrap b:=by
 have h:cM b=L->IntKind.i64.wrap b=b:=by
  intro c;have e: -9223372036854775808<=b/\b<=9223372036854775807:=by
   cases b with
   |ofNat f=>have:=Aim (c);grind
   |negSucc f=>have:=Aim (c);omega
  exact IntWalk.i64_in b e
 unfold IW;rw[jd,jd];split
 .rename_i c;have g:d=.n:=by cases d<;>simp[VZ]at c<;>rfl
  grind
 omega
def Hr(z:Program)(v:A0)(u:G)(w:BH)(c:Oper)(a:Act)(d:F):Prop:=∃b,(execOp a.eval c).run z w=.ok (.value b) w/\VR v d b
theorem VH(c:Od)(b:C Od):A3 t (c::b)=c.ev t::A3 t b:=rfl
theorem WG{c:Operand}{d:C Operand}{b:C Od}(g:D6 (c::d)=A b):∃e f,od c=A e/\D6 d=A f/\b=e::f:=by unfold D6 at g;grind
theorem kS{b:C Od}(c:D6 []=A b):b=[]:=by cases c;rfl
theorem kR{e f:Operand}{d:C Od}(g:D6 [e,f]=A d):∃b c,od e=A b/\od f=A c/\d=[b,c]:=by
 obtain⟨b,l,j,h,rfl⟩:=WG g;obtain⟨c,m,k,i,rfl⟩:=WG h;cases kS i
 grind
theorem dH{f g h:Operand}{c:C Od}(i:D6 [f,g,h]=A c):∃b e d,od f=A b/\od g=A e/\od h=A d/\c=[b,e,d]:=by obtain⟨b,l,k,j,rfl⟩:=WG i;obtain⟨_⟩:=kR j;grind
variable(y:TR v t a) (s:HR v u w)
theorem lz(y:TR v t a)(s:HR v u w){d:Oper}{c:Operand}{f:Od}{e:F}(b:d.op=.move c\/d.op=.assign c)(h:od c=A f)(g:Rd.ev .mv (A3 t [f]) u=A e):Hr z v u w d a e:=by
 cases g
 exact⟨a.eval c,by rcases b with b|b<;>simp[execOp,b],GQ y h⟩
theorem Ac5(y:TR v t a)(s:HR v u w){l:Oper}{i g h:Operand}{k:C Od}{f:F}(r:l.op=.pick i g h)(E:D6 [i,g,h]=A k)(x:Rd.ev .pick (A3 t k) u=A f):Hr z v u w l a f:=by
 obtain⟨G,H,I,o,p,q,rfl⟩:=dH E;have j:=GQ y o;have e:C8 [G.ev t,H.ev t,I.ev t]=A f:=x;unfold C8 at e;split at e
 .rename_i b J M m;injection m with n c;injection c with c d;injection d with d _;cases e
  rw[n]at j;refine⟨if b then a.eval g else a.eval h,by cases b<;>simp[execOp,r,(S7 j),asBool],?_⟩;subst c d;cases b
  .exact GQ y q
  .exact GQ y p
 grind
theorem ZO{b c:C F}(e:b<+:c)(d:D):b.d d<+:c.d d:=by obtain⟨f,rfl⟩:=e;rw[List.drop_append];grind
theorem Ac0(y:TR v t a)(s:HR v u w){G:Oper}{Q:B9}{Z:Operand}{n:Rd}{R:C Od}{o:F}(k:G.op=.load Q Z)(e:Es z G=A (.rd n R))(N:n.ev (A3 t R) u=A o):Hr z v u w G a o:=by
 unfold Es at e;rw[k]at e;simp only[]at e;split at e
 .rename_i i;split at e
  .rename_i E M;obtain⟨I,r,b⟩:=Ku e;cases b
   have d:=GQ y r;have c:Bf E u [I.ev t]=A o:=N;unfold Bf at c;split at c
   .rename_i T X b;injection b with b _;rw[b]at d;obtain⟨S,p,f⟩:=PS d;split at c
    .rename_i m V;cases c
     obtain⟨x,g,h,j⟩:=ZX (v:=z) s V p;exact⟨.agg x.a,by simp[execOp,k,f,Instr.loadAt,Instr.sureAddr,loadVar,V1 i,Iz M,j],.S _ _ (by omega)⟩
    grind
   .rename_i m b
    injection b with b _
    rw[b]at d
    obtain⟨W,n,Y,U,g,h,f⟩:=S8 d
    cases q:Co E m.l with
    |false=>rw[q]at c;cases c
    |true=>
     rw[q]at c;cases c
     obtain⟨x,j,l⟩:=cK (v:=z) s g (AjF (List.take_prefix E m) h);rw[AiH,AjT (Aim q)]at l;exact⟨.agg x.a,by simp[execOp,k,f,Instr.loadAt,Instr.sureAddr,loadVar,V1 i,Iz M,l],.S _ _ (by omega)⟩
   grind
  grind
 .rename_i i;have i:Ey z Q=Ac:=by grind
  split at e
  .rename_i U J;obtain⟨I,r,b⟩:=Ku e;cases b
   have d:=GQ y r;have c:AW u [I.ev t]=A o:=N;unfold AW at c;split at c;.rename_i T X b;injection b with b _;rw[b]at d;obtain⟨S,p,f⟩:=PS d;obtain⟨H,g,h⟩:=lE s c p;exact⟨H,by simp[execOp,k,f,Instr.loadAt,Instr.sureAddr,loadVar,V0 i J,h],g⟩
   .rename_i m b;injection b with b _;rw[b]at d;obtain⟨W,n,Y,xa,g,h,f⟩:=S8 d;obtain⟨H,j,l⟩:=je s g h c;exact⟨H,by simp[execOp,k,f,Instr.loadAt,Instr.sureAddr,loadVar,V0 i J];rw[Ajq]at j;simp[j],l⟩
   grind
  grind
theorem Ac4(y:TR v t a)(s:HR v u w){i:Oper}{e:Operand}{b:Od}{d:F}(n:i.op=.nilCheck e)(m:od e=A b)(k:Rd.ev .dA (A3 t [b]) u=A d):Hr z v u w i a d:=by
 have c:=GQ y m;have l:dB (b.ev t)=A d:=k;unfold dB at l;have j:d=b.ev t/\b.ev t≠.pn/\b.ev t≠.LL/\b.ev t≠.fn:=by grind
 obtain⟨rfl,f,g,h⟩:=j;refine⟨a.eval e,?_,c⟩;revert c f g h;generalize b.ev t=p;generalize o:a.eval e=q;intro c f g h;cases c<;>simp_all[execOp]
theorem Ac8(y:TR v t a)(s:HR v u w){j:Oper}{p:UnOp}{q:B9}{r:Operand}{m:Rd}{n:C Od}{g:F}(h:j.op=.unOp p q r)(d:Es z j=A (.rd m n))(l:m.ev (A3 t n) u=A g):Hr z v u w j a g:=by
 unfold Es at d;rw[h]at d;simp only[]at d;split at d
 .obtain⟨k,i,b⟩:=Ku d;cases b
  have e:=GQ y i;have c:Ii [k.ev t]=A g:=l;unfold Ii at c;split at c
  .rename_i f o b;injection b with b _;rw[b]at e;cases c
   rw[Ls,V2];exact⟨.int f (f.wrap (0-o)),by simp[execOp,h,(Jo e),Op.unary,Op.intArith],.i _ _⟩
  grind
 .obtain⟨k,i,b⟩:=Ku d;cases b
  have e:=GQ y i;have c:DW [k.ev t]=A g:=l;unfold DW at c;split at c
  .rename_i f b;injection b with b _;rw[b]at e;cases c
   exact⟨.bool (!f),by simp[execOp,h,(S7 e),Op.unary],.b _⟩
  grind
 grind
theorem AcX(y:TR v t a)(s:HR v u w){m:Oper}{T:B9}{U:Operand}{I:D}{d:Rd}{H:C Od}{n:F}(j:m.op=.fieldAddr T U I)(c:Es z m=A (.rd d H))(P:d.ev (A3 t H) u=A n):Hr z v u w m a n:=by
 unfold Es at c;rw[j]at c;simp only[]at c;split at c
 .rename_i X p;split at c
  .rename_i e q;split at c
   .rename_i E r;split at c;.grind
    .rename_i x;obtain⟨V,Q,b⟩:=Ku c;cases b
     have f:=GQ y Q;have g:Bt e.offset [V.ev t]=A n:=P;unfold Bt at g;split at g
     .rename_i W S b;injection b with b _;rw[b]at f;obtain⟨h,N,k⟩:=PS f;cases g
      have l:E≠0:=λi=>by subst i;exact x B
      refine⟨.pointer (A ⟨h.r,h.sh+(S+e.offset),O⟩),?_,.p _ _ h N⟩;simp[execOp,j,k,Instr.fieldAt,run_underlying p,q,Instr.sureAddr,fieldPlace,Iz r,l,Nh,Ajk]
     .rename_i Y b;injection b with b _;rw[b]at f;obtain⟨R,d,G,o,J,M,k⟩:=S8 f;cases g
      have l:E≠0:=λi=>by subst i;exact x B
      refine⟨.pointer (A ⟨d,G+(o+e.offset),O⟩),?_,.pi _ R d G (o+e.offset) J ?_⟩;.simp[execOp,j,k,Instr.fieldAt,run_underlying p,q,Instr.sureAddr,fieldPlace,Iz r,l,Nh,Ajk]
      .rw[<-AjS];exact ZO M _
     grind
   grind
  grind
 grind
theorem AcW(y:TR v t a)(s:HR v u w){e:Oper}{I:B9}{M:Operand}{m:D}{k:Rd}{l:C Od}{f:F}(j:e.op=.field I M m)(b:Es z e=A (.rd k l))(E:k.ev (A3 t l) u=A f):Hr z v u w e a f:=by
 unfold Es at b;rw[j]at b;simp only[]at b;split at b
 .rename_i Q p;split at b
  .rename_i g r;split at b
   .rename_i U R;split at b;.grind
    .rename_i i;have i:Ey z g.type=Ac:=by grind
     split at b
     .rename_i P q;obtain⟨N,H,c⟩:=Ku b;cases c
      have h:=GQ y H;have d:De g.offset [N.ev t]=A f:=E;unfold De at d;split at d;.rename_i S c;injection c with c _;rw[c]at h;obtain⟨T,x,G⟩:=Rg h;rw[QQ]at d;obtain⟨J,n,o⟩:=x.N d;exact⟨J,by simp[execOp,j,G,Instr.field,run_underlying p,r,asAgg,k9 i q (by simpa using n)],o⟩
      grind
     grind
   grind
  grind
 grind
theorem AcV(y:TR v t a)(s:HR v u w){h:Oper}{d:D}{i:Operand}{f:Od}{e:F}(p:h.op=.extract i d)(n:od i=A f)(m:Rd.ev (.ext d) (A3 t [f]) u=A e):Hr z v u w h a e:=by
 have g:=GQ y n;have b:Ca d [f.ev t]=A e:=m;unfold Ca at b;split at b;.rename_i r c;injection c with c _;rw[c]at g;obtain⟨x,l,q⟩:=na g;rw[QQ]at b;obtain⟨o,j,k⟩:=l.N b;exact⟨o,by simp[execOp,Instr.extract,by simpa using j, *],k⟩
 grind
theorem Ac2(y:TR v t a)(s:HR v u w){c:Oper}{l:Fn}{k d:Br Operand}{g:Rd}{i:C Od}{h:F}(f:c.op=.makeFunc l k d)(b:Es z c=A (.rd g i))(o:g.ev (A3 t i) u=A h):Hr z v u w c a h:=by
 unfold Es at b;rw[f]at b;simp only[]at b;split at b
 .rename_i e;split at b
  .rename_i m;obtain⟨q,p,j⟩:=Gt b;cases j
   cases o
   have n:=Ake m.2;subst n;exact⟨.func (.func e) #[] (d.map a.eval),by simp[execOp,f,Instr.makeFunc],.f e P _ _ (by simpa using(Pz y p))⟩
  grind
 grind
theorem Ac3(y:TR v t a)(s:HR v u w){c:Oper}{e:B9}{g:Operand}{d:Rd}{h:C Od}{f:F}(l:c.op=.makeInterface e g)(b:Es z c=A (.rd d h))(n:d.ev (A3 t h) u=A f):Hr z v u w c a f:=by
 unfold Es at b;rw[l]at b;simp only[]at b;split at b;.grind
 .rename_i i p k;split at b;case isFalse=>grind
  rename_i m;obtain⟨q,o,j⟩:=Ku b;cases j
  cases n
  refine⟨.iface e (a.eval g),?_,.ic _ m _ _ (GQ y o)⟩;cases i<;>simp_all[execOp,Instr.makeInterface,run_underlying k]
 grind
end
section
variable{t:Program} {u:A0} {y:Fm} {a:Act} {z:G} {w:BH}
theorem En{e:Type}{b:Ak}{d:Aj e}{c:e}(f:An b d O=A c):b=L/\d=A c:=by grind
theorem gw{e:Type}{b:Ak}{d:Aj e}{c:e}(f:An b O d=A c):b=Ac/\d=A c:=by grind
theorem NO(v:TR u y a){e f:Operand}{d:C Od}(g:D6 [e,f]=A d):∃b c,A3 y d=[b,c]/\VR u b (a.eval e)/\VR u c (a.eval f):=by obtain⟨b,c,h,i,rfl⟩:=kR g;exact⟨_,_,B,GQ v h,GQ v i⟩
theorem Mp(d:BinOp)(e:B9)(f h:Operand)(b c:Bl)(j:¬(b=.nilIface/\c=.nilIface))(k:∀g i,¬(b=.agg g/\c=.agg i)):(eqGuard d e f h b c).run t w=.ok () w:=by unfold eqGuard;cases d<;>simp<;>(cases b<;>cases c<;>simp_all)
theorem oI(f:BinOp)(l:B9)(e:IntKind)(d b:K){j:F}(c:aZ f e d b=A j)(m:f≠.shl/\f≠.shr):∃k,(binOp f l (.int e d) (.int e b)).run t w=.ok k w/\VR u j k:=by
 unfold aZ at c;cases f<;>simp only[]at c
 case add=>cases c;exact⟨.int e (e.wrap (d+b)),by simp[binOp,Op.intArith],by unfold XH;rw[Ls,jb];exact .i _ _⟩
 case sub=>cases c;exact⟨.int e (e.wrap (d-b)),by simp[binOp,Op.intArith],by unfold mF;rw[Ls,V2];exact .i _ _⟩
 case mul=>cases c;exact⟨.int e (e.wrap (d*b)),by simp[binOp,Op.intArith],by unfold kv;rw[Ls];exact .i _ _⟩
 case quo=>
  obtain⟨g,h⟩:=gw c;cases h
  have i:b≠0:=by rw[Lb]at g;grind
  exact⟨.int e (e.wrap (d.tdiv b)),by simp[binOp,Op.intDiv,i],by rw[Ls];exact .i _ _⟩
 case rem=>
  obtain⟨g,h⟩:=gw c;cases h
  have i:b≠0:=by rw[Lb]at g;grind
  exact⟨.int e (d.tmod b),by simp[binOp,Op.intDiv,i],.i _ _⟩
 case and=>cases c;exact⟨_,by simp[binOp,Op.intBits],.i _ _⟩
 case or=>cases c;exact⟨_,by simp[binOp,Op.intBits],.i _ _⟩
 case xor=>cases c;exact⟨_,by simp[binOp,Op.intBits],.i _ _⟩
 case shl=>grind
 case shr=>grind
 case andNot=>cases c
 case eql=>cases c;exact⟨.bool (d==b),by simp[binOp,Op.intCmp],by unfold hh;rw[Lb];exact .b _⟩
 case neq=>cases c;exact⟨.bool (d !=b),by simp[binOp,Op.intCmp],by unfold kz;rw[Lb,UE];exact .b _⟩
 case lss=>cases c;exact⟨.bool (d<b),by simp[binOp,Op.intCmp],by
  unfold ke;rw[Nt,UE];have:(!Au (b<=d))=Au (d<b):=by grind
  rw[this];exact .b _⟩
 case leq=>cases c;exact⟨.bool (d<=b),by simp[binOp,Op.intCmp],by unfold jW;rw[Nt];exact .b _⟩
 case gtr=>cases c;exact⟨.bool (d>b),by simp[binOp,Op.intCmp],by
  unfold i1;rw[Nt,UE];have:(!Au (d<=b))=Au (d>b):=by grind
  rw[this];exact .b _⟩
 case geq=>cases c;exact⟨.bool (d>=b),by simp[binOp,Op.intCmp],by unfold iO;rw[Nt];exact .b _⟩
theorem mi(f:BinOp)(k:B9)(b j:IntKind)(d i:K){g:F}(c:ew f b d i=A g):∃h,(binOp f k (.int b d) (.int j i)).run t w=.ok h w/\VR u g h:=by
 unfold ew at c;split at c
 .rename_i e;cases c
  exact⟨.int b (b.wrap (d*2^(min e b.bits))),by simp[binOp,Op.shift];omega,.i _ _⟩
 .rename_i e;cases c
  exact⟨.int b (d.fdiv (2^(min e b.bits))),by simp[binOp,Op.shift];omega,.i _ _⟩
 grind
theorem oJ(e:BinOp)(i:B9){b c:ByteArray}{f:F}(d:a0 e (b.data.l.m UInt8.toNat) (c.data.l.m UInt8.toNat)=A f):∃g,(binOp e i (.string b) (.string c)).run t w=.ok g w/\VR u f g:=by
 have h:EB (b.data.l.m UInt8.toNat) (c.data.l.m UInt8.toNat)=(b.toList==c.toList):=by rw[NS,fY]
 unfold a0 at d;rw[h]at d;cases e<;>simp only[]at d<;>try grind
 case eql=>cases d;exact⟨.bool (b.toList==c.toList),by simp[binOp,Op.stringOp],.b _⟩
 case neq=>cases d;exact⟨.bool (!(b.toList==c.toList)),by simp[binOp,Op.stringOp],.b _⟩
theorem rs(d:D){c e:B9}(f:t.underlying c=A (.pointer e))(b:Aj Addr):(Op.equalIn (d+1) c (.pointer b) (.pointer O)).run t w=.ok b.isNone w:=by cases b<;>simp[Op.equalIn,run_underlying f]
theorem rt(d:D){c e:B9}(f:t.underlying c=A (.pointer e))(b:Aj Addr):(Op.equalIn (d+1) c (.pointer O) (.pointer b)).run t w=.ok b.isNone w:=by simp[Op.equalIn,run_underlying f]
theorem ru(d:D){b e:B9}(f:t.underlying b=A (.slice e))(h:Addr)(g c:D):(Op.equalIn (d+1) b (.slice O 0 0) (.slice (A h) g c)).run t w=.ok Ac w:=by simp[Op.equalIn,run_underlying f]
theorem ep{f:Oper}{d:BinOp}{e h:B9}{b c:Operand}{g:Bl}(k:f.op=.binOp d e b c h)(j:(eqGuard d e b c (a.eval b) (a.eval c)).run t w=.ok () w)(i:(binOp d e (a.eval b) (a.eval c)).run t w=.ok g w):(execOp a.eval f).run t w=.ok (.value g) w:=by simp[execOp, *]
variable(v:TR u y a) (s:HR u z w)
theorem lw(v:TR u y a)(s:HR u z w){p:Oper}{e:BinOp}{c P:B9}{l m:Operand}{o:C Od}{k:F}(I:p.op=.binOp e c l m P)(H:D6 [l,m]=A o)(b:A7 e (A3 y o)=A k):Hr t u z w p a k:=by
 obtain⟨Q,R,j,E,G⟩:=NO v H;rw[j]at b;unfold A7 at b;split at b
 .rename_i d g f h j;cases j
  have N:=Jo E;have:∃i,(binOp e c (.int d g) (.int f h)).run t w=.ok i w/\VR u k i:=by
   split at b;.exact mi _ c d f g h b
   .exact mi _ c d f g h b
   .rename_i J M;obtain⟨r,x⟩:=En b;have:=(Pd d f).1 r;subst this;exact oI e c d g h x ⟨J,M⟩
  obtain⟨i,n,q⟩:=this;rw[<-N,<-(Jo G)]at n;exact⟨i,ep I (Mp e c l m _ _ (by grind) (by grind)) n,q⟩
 grind
theorem lx(v:TR u y a)(s:HR u z w){j:Oper}{c:BinOp}{e H:B9}{f g:Operand}{i:C Od}{k:F}(r:j.op=.binOp c e f g H)(q:D6 [f,g]=A i)(b:F4 c (A3 y i)=A k):Hr t u z w j a k:=by
 obtain⟨P,Q,d,o,p⟩:=NO v q;rw[d]at b;unfold F4 at b;split at b
 .rename_i M N d;cases d
  obtain⟨I,l,E⟩:=PU o;obtain⟨J,m,G⟩:=PU p;subst l m;obtain⟨x,h,n⟩:=oJ c e b;rw[<-E,<-G]at h;exact⟨x,ep r (Mp c e f g _ _ (by grind) (by grind)) h,n⟩
 grind
theorem ly(v:TR u y a)(s:HR u z w){U:Oper}{i:Ak}{h xw:B9}{k l:Operand}{xl:Rd}{G:C Od}{Q:F}(Z:U.op=.binOp (if i then .neq else .eql) h k l xw)(q:RM t h i k l=A (.rd xl G))(N:xl.ev (A3 y G) z=A Q):Hr t u z w U a Q:=by
 have xC:∀{d g:Bl}{e:Ak},(Op.equal h d g).run t w=.ok e w->(∀j a x e,¬(d=.int j a/\g=.int x e))->(∀j a x e,¬(d=.float j a/\g=.float x e))->(∀j a e x o Y,¬(d=.complex j a e/\g=.complex x o Y))->(∀a e,¬(d=.string a/\g=.string e))->(binOp (if i then .neq else .eql) h d g).run t w=.ok (.bool (if i then !e else e)) w:=by
  intro d g e R xb xc xd xe;cases i
  .cases d<;>cases g<;>first
   |exact A_ ⟨B,B⟩ (xb _ _ _ _)
   |exact A_ ⟨B,B⟩ (xc _ _ _ _)
   |exact A_ ⟨B,B⟩ (xd _ _ _ _ _ _)
   |exact A_ ⟨B,B⟩ (xe _ _)
   |(simp[binOp,R];done)
  .cases d<;>cases g<;>first
   |exact A_ ⟨B,B⟩ (xb _ _ _ _)
   |exact A_ ⟨B,B⟩ (xc _ _ _ _)
   |exact A_ ⟨B,B⟩ (xd _ _ _ _ _ _)
   |exact A_ ⟨B,B⟩ (xe _ _)
   |(simp[binOp,R];done)
 have p:∀{d g:Bl}{e:Ak},a.eval k=d->a.eval l=g->(Op.equal h d g).run t w=.ok e w->(eqGuard (if i then .neq else .eql) h k l d g).run t w=.ok () w->Q=.b (if i then !e else e)->(∀j a x e,¬(d=.int j a/\g=.int x e))->(∀j a x e,¬(d=.float j a/\g=.float x e))->(∀j a e x o Y,¬(d=.complex j a e/\g=.complex x o Y))->(∀a e,¬(d=.string a/\g=.string e))->Hr t u z w U a Q:=by intro d g e xy xz R xB N xb xc xd xe;subst N;exact⟨_,ep Z (by grind) (by grind),.b _⟩
 unfold RM at q;split at q;.obtain⟨W,r,c⟩:=Gt q;cases c;exact lw v s Z r N
 .obtain⟨W,r,c⟩:=Gt q;cases c;exact lx v s Z r N
 .rename_i H;obtain⟨W,r,c⟩:=Gt q;cases c;obtain⟨V,xf,c,m,n⟩:=NO v r;have f:Fx i (A3 y G)=A Q:=N;rw[c]at f;unfold Fx at f;split at f
  .rename_i d g c;cases c
   cases f
   exact p (S7 m) (S7 n) (run_equal_bool w h d g H) (Mp _ h k l _ _ (by simp) (by simp)) (by grind) (by simp) (by simp) (by simp) (by simp)
  .cases f
 .rename_i xi H;obtain⟨W,r,c⟩:=Gt q;cases c;obtain⟨V,xf,c,m,n⟩:=NO v r;have f:GO i (A3 y G)=A Q:=N;rw[c]at f;unfold GO at f;have T:∀(d:Aj Addr),(Op.equal h (.pointer d) (.pointer O)).run t w=.ok d.isNone w:=by intro d;exact rs 9999 H d
  have X:∀(d:Aj Addr),(Op.equal h (.pointer O) (.pointer d)).run t w=.ok d.isNone w:=by intro d;exact rt 9999 H d
  split at f
  .rename_i c;cases c
   cases f
   exact p (U6 m) (U6 n) (T O) (Mp _ h k l _ _ (by simp) (by simp)) (by cases i<;>rfl) (by simp) (by simp) (by simp) (by simp)
  .rename_i e xv c;cases c
   cases f
   obtain⟨xh,_,I⟩:=PS m;exact p I (U6 n) (T _) (Mp _ h k l _ _ (by simp) (by simp)) (by cases i<;>rfl) (by simp) (by simp) (by simp) (by simp)
  .rename_i e xv c;cases c
   cases f
   obtain⟨xh,_,J⟩:=PS n;exact p (U6 m) J (X _) (Mp _ h k l _ _ (by simp) (by simp)) (by cases i<;>rfl) (by simp) (by simp) (by simp) (by simp)
  .rename_i xu c;cases c
   cases f
   obtain⟨_,_,_,_,_,_,I⟩:=S8 m;exact p I (U6 n) (T _) (Mp _ h k l _ _ (by simp) (by simp)) (by cases i<;>rfl) (by simp) (by simp) (by simp) (by simp)
  .rename_i xu c;cases c
   cases f
   obtain⟨_,_,_,_,_,_,J⟩:=S8 n;exact p (U6 m) J (X _) (Mp _ h k l _ _ (by simp) (by simp)) (by grind) (by simp) (by simp) (by simp) (by simp)
  grind
 .rename_i xi H;obtain⟨W,r,c⟩:=Gt q;cases c;obtain⟨V,xf,c,m,n⟩:=NO v r;have f:H1 i (A3 y G)=A Q:=N;rw[c]at f;unfold H1 at f;have T:∀(d:Aj Addr)(E o:D),(Op.equal h (.slice d E o) (.slice O 0 0)).run t w=.ok d.isNone w:=by intro d E o;exact run_equal_slice_nil w h xi d E o H
  have X:∀(d:Addr)(E o:D),(Op.equal h (.slice O 0 0) (.slice (A d) E o)).run t w=.ok Ac w:=by intro d E o;exact ru 9999 H d E o
  have xm:∀{e:Aa}{U E o xp:D}{g:Bl},VR u (.Z e U E o xp) g->∃M S j,g=.slice (A M) S j:=by intro e U E o xp g R;rcases Jp R with⟨xh,xx,_,_,_,_,c⟩|⟨M,_,_,c⟩<;>grind
  have xn:∀{V:C F}{xo:C (C F)}{g:Bl},VR u (.CZ (V::xo)) g->∃M S j,g=.slice (A M) S j:=by
   intro V xo g R;rcases S9 R with⟨_,_,_,_,_,_,_,_,_,_,c⟩|⟨c,_⟩|⟨c,_⟩;.exact⟨_,_,_,c⟩
   .cases c
   .cases c
  split at f
  .rename_i c;cases c
   cases f
   exact p (Lp m) (Lp n) (T O 0 0) (Mp _ h k l _ _ (by simp) (by simp)) (by cases i<;>rfl) (by simp) (by simp) (by simp) (by simp)
  .rename_i c;cases c
   cases f
   obtain⟨M,S,j,I⟩:=xm m;exact p I (Lp n) (T _ _ _) (Mp _ h k l _ _ (by simp) (by simp)) (by cases i<;>rfl) (by simp) (by simp) (by simp) (by simp)
  .rename_i c;cases c
   cases f
   obtain⟨M,S,j,J⟩:=xm n;exact p (Lp m) J (X _ _ _) (Mp _ h k l _ _ (by simp) (by simp)) (by cases i<;>rfl) (by simp) (by simp) (by simp) (by simp)
  .rename_i c;cases c
   cases f
   obtain⟨M,S,j,I⟩:=xn m;exact p I (Lp n) (T _ _ _) (Mp _ h k l _ _ (by simp) (by simp)) (by grind) (by simp) (by simp) (by simp) (by simp)
  .rename_i c;cases c
   cases f
   obtain⟨M,S,j,J⟩:=xn n;exact p (Lp m) J (X _ _ _) (Mp _ h k l _ _ (by simp) (by simp)) (by cases i<;>rfl) (by simp) (by simp) (by simp) (by simp)
  grind
 .rename_i xA H;split at q
  .rename_i xa xk;split at q
   .rename_i xt;obtain⟨W,r,c⟩:=Gt q;cases c;obtain⟨V,xf,c,m,n⟩:=NO v r;have f:F5 i xa (A3 y G)=A Q:=N;rw[c]at f;unfold F5 at f;split at f
    .rename_i d g c;cases c
     split at f
     .rename_i e xs;cases f
      obtain⟨G,xq,I⟩:=Rg m;obtain⟨xg,xr,J⟩:=Rg n;have xj:Ey t h=L:=by unfold Ey;rw[H]
      exact p (e:=e) I J (cR (t:=t) 9992 8 h xa xk w u d g G xg (.agg G) (.agg xg) e (R_ 8 h xa xk).2.1 xq xr (by unfold LJ;rw[Af xj]) (by unfold LJ;rw[Af xj]) xs) (run_eqGuard_agg w _ h k l G xg (by simpa using xt)) (by cases i<;>rfl) (by simp) (by simp) (by simp) (by simp)
     .cases f
    .cases f
   .cases q
  .cases q
 grind
end
section
variable{y:Program} {t:A0} {v:Fm} {a:Act} {u:G} {w:BH}
theorem X1{n o:D}{I x:Ak}{M:C F}{m d:D}(i:Vp n o I x M=A (m,d)){h f:Aj Bl}(U:I=h.isSome)(T:x=f.isSome)(E:BJ t M (h.toList++f.toList))(G:n<=o):m<=d/\d<=o/\(x=Ac->d=n)/\∀(c:D)(g:Ak),o<=c->(Instr.sliceBounds g n c h f O).run y w=.ok (m,d,c) w:=by
 unfold Vp at i;split at i
 .cases i
  cases h with
  |some _=>grind
  |none=>cases f with
   |some _=>grind
   |none=>exact⟨Om,G,Om,λc g r=>by simp[Instr.sliceBounds]⟩
 .rename_i H S
  obtain⟨b,e⟩:=En i
  cases e
  have b:=Aim b
  cases h with
  |none=>grind
  |some J=>cases f with
   |some _=>grind
   |none=>
    obtain⟨N,j,k⟩:=Lq E;cases j
    have:=Jo k;subst this;refine⟨b,G,Om,λc g r=> ?_⟩;have l:(m:K)<=n:=by omega
    simp[Instr.sliceBounds,Instr.sliceBound,asIntOf,l,b]
 .rename_i H Q
  obtain⟨b,e⟩:=En i
  cases e
  have b:=Aim b
  cases h with
  |some _=>grind
  |none=>cases f with
   |none=>grind
   |some J=>
    obtain⟨N,j,k⟩:=Lq E;cases j
    have:=Jo k;subst this;refine⟨Om,b,λp=>(by cases p),λc g r=> ?_⟩;have l:(d:K)<=c:=by omega
    have q:d<=c:=by omega
    cases g<;>simp[Instr.sliceBounds,Instr.sliceBound,asIntOf,l,q]
 .rename_i H S V Q
  obtain⟨b,e⟩:=En i
  cases e
  simp only[Aie]at b
  have e:=Aim b.2
  have b:=Aim b.1
  cases h with
  |none=>grind
  |some J=>cases f with
   |none=>grind
   |some W=>
    obtain⟨N,X,j,k,P⟩:=eW E;cases j
    have:=Jo k;subst this;have:=Jo P;subst this;refine⟨e,b,λp=>(by cases p),λc g r=> ?_⟩;have l:(d:K)<=c:=by omega
    have q:d<=c:=by omega
    have R:(m:K)<=d:=by omega
    cases g<;>simp[Instr.sliceBounds,Instr.sliceBound,asIntOf,l,R,q,e]
 grind
variable(z:TR t v a) (s:HR t u w)
theorem AcU(z:TR t v a)(s:HR t u w){f:Oper}{r l:B9}{x:Operand}{j:Rd}{k:C Od}{g:F}(i:f.op=.convert r l x)(c:Es y f=A (.rd j k))(o:j.ev (A3 v k) u=A g):Hr y t u w f a g:=by
 unfold Es at c;rw[i]at c;simp only[]at c;split at c
 .rename_i H e n m;obtain⟨E,p,b⟩:=Ku c;cases b
  have h:=GQ z p;have d:Hy e [E.ev v]=A g:=o;unfold Hy at d;split at d
  .rename_i G q b;injection b with b _;rw[b]at h;cases d
   rw[Ls];exact⟨.int e (e.wrap q),by simp[execOp,i,(Jo h),convert,run_underlying n,run_underlying m,Conv.intToInt],.i _ _⟩
  grind
 grind
end
theorem hS{e:D}:∀{d:C (C F)} c {b:C F},(∀b∈d,b.l=e)->d[c]? =A b->b<+:d.flatten.d (c*e)
 |[],c,b,_,f=>by grind
 |g::d,0,b,i,f=>by grind
 |g::d,c+1,b,i,f=>by
  have h:d[c]? =A b:=by grind
  rw[AjG,show(c+1)*e=g.l+c*e by grind,AkA];exact(hS c P h)
theorem hT{d:D}:∀{c:C (C F)} b,(∀e∈c,e.l=d)->(c.d b).flatten=c.flatten.d (b*d)
 |c,0,_=>by simp
 |[],b+1,_=>by simp
 |g::c,b+1,f=>by rw[List.drop_succ_cons,(hT b (λe h=>f e (by simp[h]))),AjG,show(b+1)*d=g.l+b*d by rw[Aje,(f g (by simp))];omega,AkA]
theorem RZ{e:D}:∀{b:C (C F)},(∀c∈b,c.l=e)->b.flatten.l=b.l*e
 |[],_=>by simp
 |g::b,d=>by rw[AjG,Aio,(RZ (λc f=>d c (by simp[f]))),d g (by simp),AiD,Aje];omega
theorem b3(b:C (C F))(c:D):(b.t c).flatten<+:b.flatten:=by
 conv=>rhs;rw[<-Aj0 c b,List.flatten_append]
 grind
theorem Afd{f:D}{b:C (C F)}(d e:D)(h:∀c∈b,c.l=f):((b.t e).d d).flatten<+:b.flatten.d (d*f):=by rw[hT d (λc g=>h c (Akg g))];exact ZO (b3 b e) _
section
variable{y:Program} {t:A0} {u:Fm} {a:Act} {v:G} {w:BH}
variable(z:TR t u a) (s:HR t v w)
theorem AcZ(z:TR t u a)(s:HR t v w){l:Oper}{xd:B9}{xe W:Operand}{I:Rd}{n:C Od}{m:F}(j:l.op=.indexAddr xd xe W)(c:Es y l=A (.rd I n))(T:I.ev (A3 u n) v=A m):Hr y t v w l a m:=by
 unfold Es at c;rw[j]at c;simp only[]at c;split at c
 .rename_i xj x;split at c
  .rename_i H E;split at c
   .obtain⟨xn,S,b⟩:=Gt c;cases b
    obtain⟨N,xo,b,q,r⟩:=NO z S;have d:AZ H (A3 u n)=A m:=T;rw[b]at d;unfold AZ at d;split at d
    .rename_i xh xc xb P xf X e b;cases b
     obtain⟨f,i⟩:=En d;cases i
     simp only[Aie]at f;have R:e<xb:=by have:=f.1;rwa[AjR]at this
     have U:=Aii f.2;subst U;rcases Jp q with⟨h,xi,Q,_,_,_,g⟩|⟨xg,xl,_,g⟩;.refine⟨.pointer (A ⟨h.r,h.sh+(xc+e*xf),O⟩),?_,.p _ _ h Q⟩;simp[execOp,j,g,(Jo r),Instr.indexAt,run_underlying x,asIntOf,R,Iz E,Nh,Ajk]
     .omega
    .rename_i xk X e b;cases b
     split at d
     .rename_i N k;obtain⟨f,i⟩:=En d;cases i
      rcases S9 q with⟨xa,J,M,p,o,P,Y,Z,G,xm,g⟩|⟨rfl,_⟩|⟨rfl,_⟩
      .have V:o=H:=by rw[<-(Aii f),G N (Ail k)]
       subst V;refine⟨.pointer (A ⟨J,M+(p+e*o),O⟩),?_,.pi _ xa J M (p+e*o) Y ?_⟩;.simp[execOp,j,g,(Jo r),Instr.indexAt,run_underlying x,asIntOf,(Aid.1 k).1,Iz E,Nh,Ajk]
       .rw[<-AjS];exact AjF (hS e G k) (ZO Z _)
      .grind
      grind
     grind
    grind
   grind
  grind
 grind
theorem AcY(z:TR t u a)(s:HR t v w){j:Oper}{J:B9}{M I:Operand}{o:Rd}{m:C Od}{l:F}(n:j.op=.index J M I)(c:Es y j=A (.rd o m))(H:o.ev (A3 u m) v=A l):Hr y t v w j a l:=by
 unfold Es at c;rw[n]at c;simp only[]at c;split at c
 .rename_i r;obtain⟨R,x,b⟩:=Gt c;cases b
  obtain⟨T,U,b,f,g⟩:=NO z x;have d:HN (A3 u m)=A l:=H;rw[b]at d;unfold HN at d;split at d
  .rename_i S Q i b;cases b
   obtain⟨e,q,N⟩:=PU f;subst q;split at d
   .rename_i P h
    cases d
    rw[AiL]at h
    cases E:e.data.l[i]?with
    |none=>grind
    |some k=>
     rw[E]at h;cases h
     have G:e[i]? =A k:=by
      have f:e.data[i]? =A k:=by grind
      obtain⟨g,p⟩:=Array.getElem?_eq_some_iff.1 f;exact getElem?_eq_some_iff.2 ⟨g,p⟩
     refine⟨.int .u8 k.toNat,?_,.i _ _⟩;simp[execOp,n,N,(Jo g),Instr.index,run_underlying r,asIntOf,G]
   grind
  grind
 grind
theorem Ac7(z:TR t u a)(s:HR t v w){xa:Oper}{xD:B9}{xo:Operand}{Y W:Aj Operand}{xn:Rd}{xp:C Od}{xf:F}(X:xa.op=.slice xD xo Y W O)(n:Es y xa=A (.rd xn xp))(xw:xn.ev (A3 u xp) v=A xf):Hr y t v w xa a xf:=by
 unfold Es at n;rw[X]at n;simp only[]at n;split at n;.grind
 .rename_i b R;have xu:D6 (xo::(Y.toList++W.toList))=A b:=R;obtain⟨xE,xF,xq,xr,rfl⟩:=WG xu;have m:=GQ z xq;have g:=Pz z xr;rw[AiZ]at g;have xg:∀q:Aj Operand,q.toList.m a.eval=(q.map a.eval).toList:=by intro q;cases q<;>rfl
  rw[xg,xg]at g;split at n
  .rename_i xI h;split at n
   .rename_i H i;cases n
    have G:Hz H Y.isSome W.isSome (xE.ev u::A3 u xF)=A xf:=xw;unfold Hz at G;split at G
    .rename_i xH xm Z c Q q j;injection j with k l;rw[k]at m;rw[l]at g;obtain⟨xl,N⟩:=En G;have xx:=Aii xl;subst xx;split at N
     .rename_i b d E;cases N
      rcases Jp m with⟨I,e,xh,xk,xj,xK,x⟩|⟨J,xk,xj,x⟩
      .have S:Z<=TE Z c/\TE Z c<=e:=by
        unfold TE
        grind
       obtain⟨xb,T,xc,f⟩:=X1 (y:=y) (w:=w) E (by simp) (by simp) g S.1
       by_cases M:e=b
       .subst M;refine⟨.slice (A ⟨I.r,I.sh+xm,O⟩) (d-e) (e-e),?_,?_⟩;.simp[execOp,Instr.sliceAt,Instr.slice,run_underlying h,Iz i, *]
        .have k:d-e=0:=by omega
         have l:e-e=0:=by omega
         rw[k,l];refine .ae _ _ _ _ _ _ xh ?_;unfold NY;rcases xj with rfl|rfl;.exact .i B
         .right;simp
       .refine⟨.slice (A ⟨I.r,I.sh+(xm+b*Q),O⟩) (d-b) (e-b),?_,?_⟩;.simp[execOp,X,x,Instr.sliceAt,Instr.slice,run_underlying h,(f e L S.2),Iz i,M,Nh,Ajk]
        .refine .Z _ _ _ _ _ I _ xh (by omega) ?_ ?_;.unfold NY;grind
         .have:b*Q+(e-b)*Q=e*Q:=by rw[<-Aje];grind
          omega
      .subst xk;have S:TE 0 c=0:=by unfold TE;grind
       obtain⟨xb,T,xc,f⟩:=X1 (y:=y) (w:=w) E (by simp) (by simp) g (AiO _);rw[S]at T f;have r:=f 0 L (C6 _);have p:b=0:=by omega
       have o:d=0:=by omega
       subst p o;refine⟨.slice (A J) 0 0,?_,?_⟩;.simp[execOp,Instr.sliceAt,Instr.slice,run_underlying h,Iz i, *]
       .obtain⟨xG,xs⟩:=m_ m;refine .ae _ _ _ _ _ _ xs ?_;unfold NY;grind
     grind
    .rename_i q j;injection j with k l;rw[k]at m;rw[l]at g;have x:=Lp m;split at G
     .rename_i xz E;obtain⟨b,d⟩:=xz;cases G
      obtain⟨xb,T,xc,f⟩:=X1 (y:=y) (w:=w) E (by simp) (by simp) g (C6 _);have r:=f 0 L (C6 _);have p:b=0:=by omega
      have o:d=0:=by omega
      subst p o;exact⟨.slice O 0 0,by simp[execOp,Instr.sliceAt,Instr.slice,run_underlying h,Iz i, *],.sn⟩
     grind
    .rename_i V q j;injection j with k l;rw[k]at m;rw[l]at g;obtain⟨xl,N⟩:=En G;have xv:∀j∈V,j.l=H:=λj xJ=>Aii P;split at N
     .rename_i b d E;cases N
      obtain⟨xb,T,xc,f⟩:=X1 (y:=y) (w:=w) E (by simp) (by simp) g (C6 _);rcases S9 m with⟨xy,xd,xe,U,Q,c,xA,xB,xL,xC,x⟩|⟨rfl,J,c,x⟩|⟨rfl,x⟩
      .have r:=f c L xC;by_cases M:c=b
       .subst M;have xt:(V.t d).d c=[]:=by apply Aiq;simp;omega
        refine⟨.slice (A ⟨xd,xe+U,O⟩) (d-c) (c-c),?_,?_⟩;.simp[execOp,Instr.sliceAt,Instr.slice,run_underlying h,Iz i, *]
        .rw[xt,show d-c=0 by omega];exact .PM _ _
       .refine⟨.slice (A ⟨xd,xe+(U+b*H),O⟩) (d-b) (c-b),?_,?_⟩;.simp[execOp,X,x,Instr.sliceAt,Instr.slice,run_underlying h,r,Iz i,M,Nh,Ajk]
        .have R:((V.t d).d b).l=d-b:=by grind
         rw[<-R];refine .CZ _ xy xd xe (U+b*H) H (c-b) xA ?_ P (by rw[R];omega);rw[<-AjS];exact AjF (Afd b d xv) (ZO xB _)
      .have r:=f c L (AiO _);simp only[Aj1]at r;have p:b=0:=by grind
       have o:d=0:=by grind
       subst p o;by_cases xi:c=0;.subst xi;exact⟨.slice (A J) 0 0,by simp[execOp,Instr.sliceAt,Instr.slice,run_underlying h,Iz i, *],by simpa using VR.PM J 0⟩
       .exact⟨.slice (A (J.add (0*H))) 0 c,by simp[execOp,Instr.sliceAt,Instr.slice,run_underlying h,Iz i,xi, *],by simpa using VR.PM _ c⟩
      .have r:=f 0 L (C6 _);simp only[Aj1]at r;have p:b=0:=by grind
       have o:d=0:=by grind
       subst p o;exact⟨.slice O 0 0,by simp[execOp,Instr.sliceAt,Instr.slice,run_underlying h,Iz i, *],by grind⟩
     grind
    grind
   grind
  grind
end
