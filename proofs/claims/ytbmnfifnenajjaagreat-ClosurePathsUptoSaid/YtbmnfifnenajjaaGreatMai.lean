/- Part of the proof. -/
import Derived.Test.YtbmnfifnenajjaaGreatMaf
set_option linter.all false
noncomputable section
open Option renaming some->A
open _root_ renaming rfl->B,List->C,Nat->D,Bool->Ah,cond->Aj
open Bool renaming true->L,false->Aa
open Nat renaming ble->BX
open List renaming map->List.m
open Or renaming inr->Or.j
namespace Go.Proofs.YtbmnfifnenajjaaGreat
open Go.Fg
section
set_option maxRecDepth 100000
def Vr(a c:D):Ah:= @Nat.rec (λ_=>D->Ah) (λ_=>L) (λ_ b a=>Aj (OE a) (b (a+1)) Aa) c a
def XU:∀(d a b:D),Vr a d=L->a<=b->b<a+d->OE b=L
 |0,a,b,_,g,h=>by omega
 |d+1,a,b,c,g,h=>by
  have c:Aj (OE a) (Vr (a+1) d) Aa=L:=c
  cases e:OE a with
  |false=>rw[e]at c;cases c
  |true=>
   rw[e]at c;by_cases f:b=a;.rw[f];exact e
   .exact XU d (a+1) b c (by omega) (by omega)
def oa:Vr 3 100=L:=by kernel_rfl
def ob:Vr 103 100=L:=by kernel_rfl
def oc:Vr 203 62=L:=by kernel_rfl
abbrev MI(a:D):Prop:=(BX 3 a&&BX a 264)=L
variable{a:D}
def LP(b:MI a):OE a=L:=by
 have b:=(AdO _ _).mp b;have e:=AdT b.1;have f:=AdT b.2;by_cases c:a<103;.exact XU _ _ a oa (by omega) (by omega)
 by_cases d:a<203;.exact XU _ _ a ob (by omega) (by omega)
 .exact XU _ _ a oc (by omega) (by omega)
def Mk{b:D}{d:E2}(f:Jc P9 b=d)(i:MI b):(∀a g h c,jj a b g h c=YJ a d (jj a b) g h c)/\(∀a e c,xx a b e c=Y0 a d (jj a b) e c):=⟨jl f (LP i),xl f⟩
def d0(n:MI a)(l:KX (pos a)=Aa){b c:C F}{d e f j:G}{g h:F}(k:FV d b=A (c,e))(i:xx W9 a c G.Aq=A (g,f))(m:Dp f g=A (h,j)):W9 (pos a) b d=A (h,e):=
 mP (LP n) l k i m
def AZ(g:MI a)(f:KX (pos a)=L){b:C F}{c:G}{d:F×G}(e:xx W9 a b c=A d):W9 (pos a) b c=A d:=
 mQ (LP g) f e
end
end Go.Proofs.YtbmnfifnenajjaaGreat
namespace Go.Fg
abbrev CU:=F->F->F->F->F->F->F->F->F->F->F->F->G->R
def tk(d:D)(a:C F):C F:= @Nat.rec (λ_=>C F->C F) (λ_=>[]) (λ_ c a=> @List.casesOn F (λ_=>C F) a [] (λb e=>b::c e)) d a
def tu(a:C T):D:= @List.rec T (λ_=>D) 0 (λ_ _ b=>Nat.succ b) a
def cu(a:C F->G->R)(o:D):CU:=λb c d e f g h j k l m n i=>a (tk o [b,c,d,e,f,g,h,j,k,l,m,n]) i
def Tz(b:D->C F->G->R)(c:C Pt):C CU:= @List.rec Pt (λ_=>C CU) [] (λa _ d=>cu (b a.j) (tu a.L)::d) c
def vj{i:D}{g:C Pt}{e f:C F->G->R}{c d:D->C F->G->R}(a:∀b a,e b a=f b a)(j:∀h b a,c h b a=d h b a):cu e i::Tz c g=cu f i::Tz d g:=by rw[show e=f from funext P,show c=d from funext P]
end Go.Fg
namespace Go.Proofs.YtbmnfifnenajjaaGreat
open Go.Fg
def MT(a:C D):C E2:=a.m (Jc P9)
def Zs{b:D}{a:E2}(c:Jc P9 b=a):MT [b]=[a]:=by subst c;rfl
def gj(c:Bd)(g:C D):C D->C E2->C (C CU):= @List.rec D (λ_=>C D->C E2->C (C CU)) (λ_ _=>[]) (λd _ f b a=> @List.casesOn D (λ_=>C (C CU)) b [] λh b=> @List.casesOn E2 (λ_=>C (C CU)) a [] λe a=>(cu (xx c d) h::Tz (jj c d) (Gj e.Do []))::f b a) g
def gy(a:Bd)(g:C D):C D->C E2->C (C CU):= @List.rec D (λ_=>C D->C E2->C (C CU)) (λ_ _=>[]) (λe _ f d c=> @List.casesOn D (λ_=>C (C CU)) d [] λh d=> @List.casesOn E2 (λ_=>C (C CU)) c [] λb c=>(cu (Y0 a b (jj a e)) h::Tz (YJ a b (jj a e)) (Gj b.Do []))::f d c) g
def Pl(b:Bd):∀{a:C D}{d:C E2},MT a=d->(a.all λe=>BX 3 e&&BX e 264)=L->∀c:C D,gj b a c d=gy b a c d
 |[],_,_,_,_=>rfl
 |e::a,[],h,_,_=>by cases h
 |e::a,m::d,h,f,c=>by
  rw[Aer,AdO]at f
  obtain⟨j,k⟩:=AfW h
  cases c with
  |nil=>rfl
  |cons n c=>show(_::_)::gj b a c d=(_::_)::gy b a c d;rw[Pl b k f.2,vj (λg i=>(Mk j f.1).2 b g i) λl g i=>(Mk j f.1).1 b l g i]
abbrev XT:=D->C F->G->R
def gx(f:XT)(d:D->JF)(h:C D):C D->C E2->C (C CU):= @List.rec D (λ_=>C D->C E2->C (C CU)) (λ_ _=>[]) (λc _ g b a=> @List.casesOn D (λ_=>C (C CU)) b [] λi b=> @List.casesOn E2 (λ_=>C (C CU)) a [] λe a=>(cu (f c) i::Tz (d c) (Gj e.Do []))::g b a) h
def gz(e:Bd)(d:D->JF)(h:C D):C D->C E2->C (C CU):= @List.rec D (λ_=>C D->C E2->C (C CU)) (λ_ _=>[]) (λf _ g c b=> @List.casesOn D (λ_=>C (C CU)) c [] λi c=> @List.casesOn E2 (λ_=>C (C CU)) b [] λa b=>(cu (Y0 e a (d f)) i::Tz (YJ e a (d f)) (Gj a.Do []))::g c b) h
variable{b:C D}
def Pg{a:Bd}{c:D->JF}{f:XT}(i:jj a=c)(j:xx a=f){d:C E2}(h:MT b=d)(k:(b.all λg=>BX 3 g&&BX g 264)=L)(e:C D):gx f c b e d=gz a c b e d:=by subst i j;exact Pl a h k e
def Nz(_:C D):Prop:=True
def Pn{e:Bd}{c:D->JF}{f:XT}(i:jj e=c)(j:xx e=f){a:C D}{d:C E2}(h:MT a=d)(k:(a.all λg=>BX 3 g&&BX g 264)=L)(_:Nz b):gx f c a b d=gz e c a b d:=Pg i j h k b
def Pm(d:Bd){a:C D}{c:C E2}(f:MT a=c)(g:(a.all λe=>BX 3 e&&BX e 264)=L)(_:Nz b):gj d a b c=gy d a b c:=Pl d f g b
def Tq(cf:Bd)(b a:D){c:Prop}(d:MT [b]=MT [b]->Nz [a]->c:=by
 intro e a
 conv at e=>rhs;reduce
 replace e:=Pm cf e rfl a
 conv at e=>lhs;reduce
 conv at e=>rhs;reduce
 simp at e
 try delta I2 at e
 exact e):c:=d B Aeb
def Tc(cf:Bd)(b a:D){c:Prop}(d:Iz P9 b=Iz P9 b->Nz [a]->c:=by
 intro e a
 conv at e=>rhs;cbv
 replace e:=Zs (Ac8 e)
 conv at e=>rhs;reduce
 replace e:=Pm cf e rfl a
 conv at e=>lhs;reduce
 conv at e=>rhs;reduce
 simp at e
 try delta I2 at e
 exact e):c:=d B Aeb
def c9{a:Bd}{f:D->JF}{g:XT}(b:jj a=f)(c:xx a=g)(h d:D){i:Prop}(j:MT [h]=MT [h]->jj a=f->xx a=g->Nz [d]->i:=by
 intro e b c d
 conv at e=>rhs;reduce
 replace e:=Pn b c e rfl d
 conv at e=>lhs;reduce
 conv at e=>rhs;reduce
 simp at e
 try delta I2 at e
 exact e):i:=j B b c Aeb
