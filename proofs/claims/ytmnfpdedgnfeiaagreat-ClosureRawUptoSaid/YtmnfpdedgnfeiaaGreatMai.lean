/- Part of the proof. -/
import Derived.Test.YtmnfpdedgnfeiaaGreatMaf
set_option linter.all false
noncomputable section
open Option renaming some->A
open _root_ renaming rfl->B,List->C,Nat->D,Bool->Ak,cond->An
open Bool renaming true->L,false->Ac
open Nat renaming ble->Co
open List renaming map->List.m
open Or renaming inr->Or.j
namespace Go.Proofs.YtmnfpdedgnfeiaaGreat
open Go.Fg
section
set_option maxRecDepth 100000
def WK(a c:D):Ak:= @Nat.rec (λ_=>D->Ak) (λ_=>L) (λ_ b a=>An (PA a) (b (a+1)) Ac) c a
def Zy:∀(d a b:D),WK a d=L->a<=b->b<a+d->PA b=L
 |0,a,b,_,g,h=>by omega
 |d+1,a,b,c,g,h=>by
  have c:An (PA a) (WK (a+1) d) Ac=L:=c
  cases e:PA a with
  |false=>rw[e]at c;cases c
  |true=>
   rw[e]at c;by_cases f:b=a;.rw[f];exact e
   .exact Zy d (a+1) b c (by omega) (by omega)
def oa:WK 3 100=L:=by kernel_rfl
def ob:WK 103 100=L:=by kernel_rfl
def oc:WK 203 45=L:=by kernel_rfl
abbrev LO(a:D):Prop:=(Co 3 a&&Co a 247)=L
variable{a:D}
def Lj(b:LO a):PA a=L:=by
 have b:=(Aie _ _).mp b;have e:=Aim b.1;have f:=Aim b.2;by_cases c:a<103;.exact Zy _ _ a oa (by omega) (by omega)
 by_cases d:a<203;.exact Zy _ _ a ob (by omega) (by omega)
 .exact Zy _ _ a oc (by omega) (by omega)
def Mk{b:D}{d:Fv}(f:JK P9 b=d)(i:LO b):(∀a g h c,jj a b g h c=YJ a d (jj a b) g h c)/\(∀a e c,xx a b e c=Y0 a d (jj a b) e c):=⟨jl f (Lj i),xl f⟩
def f3(n:LO a)(l:KJ (Ar a)=Ac){b c:C F}{d e f j:G}{g h:F}(k:F9 d b=A (c,e))(i:xx W9 a c G.Az=A (g,f))(m:Dq f g=A (h,j)):W9 (Ar a) b d=A (h,e):=
 qk (Lj n) l k i m
def Bd(g:LO a)(f:KJ (Ar a)=L){b:C F}{c:G}{d:F×G}(e:xx W9 a b c=A d):W9 (Ar a) b c=A d:=
 ql (Lj g) f e
end
end Go.Proofs.YtmnfpdedgnfeiaaGreat
namespace Go.Fg
abbrev CU:=F->F->F->F->F->F->F->F->F->F->F->F->G->R
def tk(d:D)(a:C F):C F:= @Nat.rec (λ_=>C F->C F) (λ_=>[]) (λ_ c a=> @List.casesOn F (λ_=>C F) a [] (λb e=>b::c e)) d a
def w9(a:C Aa):D:= @List.rec Aa (λ_=>D) 0 (λ_ _ b=>Nat.succ b) a
def cu(a:C F->G->R)(o:D):CU:=λb c d e f g h j k l m n i=>a (tk o [b,c,d,e,f,g,h,j,k,l,m,n]) i
def UQ(b:D->C F->G->R)(c:C Pt):C CU:= @List.rec Pt (λ_=>C CU) [] (λa _ d=>cu (b a.j) (w9 a.L)::d) c
def Acr{i:D}{g:C Pt}{e f:C F->G->R}{c d:D->C F->G->R}(a:∀b a,e b a=f b a)(j:∀h b a,c h b a=d h b a):cu e i::UQ c g=cu f i::UQ d g:=by rw[show e=f from funext P,show c=d from funext P]
end Go.Fg
namespace Go.Proofs.YtmnfpdedgnfeiaaGreat
open Go.Fg
def NK(a:C D):C Fv:=a.m (JK P9)
def Zs{b:D}{a:Fv}(c:JK P9 b=a):NK [b]=[a]:=by subst c;rfl
def gj(c:Bh)(g:C D):C D->C Fv->C (C CU):= @List.rec D (λ_=>C D->C Fv->C (C CU)) (λ_ _=>[]) (λd _ f b a=> @List.casesOn D (λ_=>C (C CU)) b [] λh b=> @List.casesOn Fv (λ_=>C (C CU)) a [] λe a=>(cu (xx c d) h::UQ (jj c d) (GV e.DS []))::f b a) g
def gy(a:Bh)(g:C D):C D->C Fv->C (C CU):= @List.rec D (λ_=>C D->C Fv->C (C CU)) (λ_ _=>[]) (λe _ f d c=> @List.casesOn D (λ_=>C (C CU)) d [] λh d=> @List.casesOn Fv (λ_=>C (C CU)) c [] λb c=>(cu (Y0 a b (jj a e)) h::UQ (YJ a b (jj a e)) (GV b.DS []))::f d c) g
def Pl(b:Bh):∀{a:C D}{d:C Fv},NK a=d->(a.all λe=>Co 3 e&&Co e 247)=L->∀c:C D,gj b a c d=gy b a c d
 |[],_,_,_,_=>rfl
 |e::a,[],h,_,_=>by cases h
 |e::a,m::d,h,f,c=>by
  rw[AiK,Aie]at f
  obtain⟨j,k⟩:=Aj5 h
  cases c with
  |nil=>rfl
  |cons n c=>show(_::_)::gj b a c d=(_::_)::gy b a c d;rw[Pl b k f.2,Acr (λg i=>(Mk j f.1).2 b g i) λl g i=>(Mk j f.1).1 b l g i]
abbrev XT:=D->C F->G->R
def gx(f:XT)(d:D->JF)(h:C D):C D->C Fv->C (C CU):= @List.rec D (λ_=>C D->C Fv->C (C CU)) (λ_ _=>[]) (λc _ g b a=> @List.casesOn D (λ_=>C (C CU)) b [] λi b=> @List.casesOn Fv (λ_=>C (C CU)) a [] λe a=>(cu (f c) i::UQ (d c) (GV e.DS []))::g b a) h
def gz(e:Bh)(d:D->JF)(h:C D):C D->C Fv->C (C CU):= @List.rec D (λ_=>C D->C Fv->C (C CU)) (λ_ _=>[]) (λf _ g c b=> @List.casesOn D (λ_=>C (C CU)) c [] λi c=> @List.casesOn Fv (λ_=>C (C CU)) b [] λa b=>(cu (Y0 e a (d f)) i::UQ (YJ e a (d f)) (GV a.DS []))::g c b) h
variable{b:C D}
def Pg{a:Bh}{c:D->JF}{f:XT}(i:jj a=c)(j:xx a=f){d:C Fv}(h:NK b=d)(k:(b.all λg=>Co 3 g&&Co g 247)=L)(e:C D):gx f c b e d=gz a c b e d:=by subst i j;exact Pl a h k e
def Nz(_:C D):Prop:=True
def Pn{e:Bh}{c:D->JF}{f:XT}(i:jj e=c)(j:xx e=f){a:C D}{d:C Fv}(h:NK a=d)(k:(a.all λg=>Co 3 g&&Co g 247)=L)(_:Nz b):gx f c a b d=gz e c a b d:=Pg i j h k b
def Pm(d:Bh){a:C D}{c:C Fv}(f:NK a=c)(g:(a.all λe=>Co 3 e&&Co e 247)=L)(_:Nz b):gj d a b c=gy d a b c:=Pl d f g b
def Tq(cf:Bh)(b a:D){c:Prop}(d:NK [b]=NK [b]->Nz [a]->c:=by
 intro e a
 conv at e=>rhs;reduce
 replace e:=Pm cf e rfl a
 conv at e=>lhs;reduce
 conv at e=>rhs;reduce
 simp at e
 try delta I4 at e
 exact e):c:=d B Ais
def Tc(cf:Bh)(b a:D){c:Prop}(d:I5 P9 b=I5 P9 b->Nz [a]->c:=by
 intro e a
 conv at e=>rhs;cbv
 replace e:=Zs (Ahq e)
 conv at e=>rhs;reduce
 replace e:=Pm cf e rfl a
 conv at e=>lhs;reduce
 conv at e=>rhs;reduce
 simp at e
 try delta I4 at e
 exact e):c:=d B Ais
def fc{a:Bh}{f:D->JF}{g:XT}(b:jj a=f)(c:xx a=g)(h d:D){i:Prop}(j:NK [h]=NK [h]->jj a=f->xx a=g->Nz [d]->i:=by
 intro e b c d
 conv at e=>rhs;reduce
 replace e:=Pn b c e rfl d
 conv at e=>lhs;reduce
 conv at e=>rhs;reduce
 simp at e
 try delta I4 at e
 exact e):i:=j B b c Ais
