/- Part of the proof. -/
import Derived.RowKit3
import Derived.Test.YtmnfpdedgnfeiaaGreatRows
import Derived.ProofKit
import Derived.Test.YtmnfpdedgnfeiaaGreatMbu
import Derived.Test.YtmnfpdedgnfeiaaGreatMbv
set_option linter.all false
noncomputable section
open Option renaming some->A,none->O,bind->Option.b
open _root_ renaming rfl->B,List->C,Nat->D,if_neg->Ad,if_pos->Af,Option->Aj,Bool->Ak,cond->An,absurd->A_
open Bool renaming true->L,false->Ac
open Decidable renaming decide->Au
open Go renaming World->BH
open Nat renaming le_refl->C6
open List renaming length->List.l
open Array renaming toList->Array.l,size->Array.z
namespace Go.Proofs.YtmnfpdedgnfeiaaGreat
open Go.Fg
def M8:Aa->C F->Aj F:=λb a=>match SQ b a with|some c=>A c|none=>WV T5 b a
def Pb:Aa->Ak:=λa=>Aa.eq a (Ar 16)||KJ a
def ax(e:Aa)(c:C F)(b:F):Prop:=∃a,a<1000000/\e=Ar a/\A2 a c b/\Pb (Ar a)=Ac/\c.all Mr=L/\∃d:G,Dq G.Az b=A (b,d)
def Acp(c:Aa)(e:C F)(g:F)(a:SQ c e=A g):ax c e g:=by
 unfold SQ at a;split at a
 .rename_i f
  cases b:Aa.eq c (Ar 48)with
  |true=>rw[b]at a;cases a;exact⟨48,by omega,Aa.LH b,iz f,by kernel_rfl,B,_,O5 B _⟩
  |false=>
   rw[b]at a
   cases d:Aa.eq c (Ar 49)with
   |true=>rw[d]at a;cases a;exact⟨49,by omega,Aa.LH d,iA f,by kernel_rfl,B,_,O5 B _⟩
   |false=>rw[d]at a;cases a
 .rename_i k j h i
  cases b:Aa.eq c (Ar 50)with
  |true=>rw[b]at a;cases a;exact⟨50,by omega,Aa.LH b,iB k j h i,by kernel_rfl,B,_,O5 B _⟩
  |false=>rw[b]at a;cases a
 .cases a
def YE(a:F):Ak:=match Dq G.Az a with|some b=>FT b.1 a|none=>Ac
def sP{b:F}(a:YE b=L):∃e:G,Dq G.Az b=A (b,e):=by
 unfold YE at a;split at a;.rename_i g f;have:=XX _ a;obtain⟨c,d⟩:=g;have:c=b:=this;subst this;exact⟨d,f⟩
 .cases a
def lg:∀{h:C (D×C F×F)},(∀a∈h,A2 a.1 a.2.1 a.2.2)->(h.all λa=>(Nat.blt a.1 1000000&& !Pb (Ar a.1))&&(a.2.1.all Mr&&YE a.2.2))=L->∀d b f,WV h d b=A f->ax d b f
 |[],_,_,d,b,f,c=>by cases c
 |a::l,j,i,d,b,f,c=>by
  have c:An (Aa.eq d (Ar a.1)&&Jv b a.2.1) (A a.2.2) (WV l d b)=A f:=c
  rw[AiK,Aie]at i
  cases e:Aa.eq d (Ar a.1)&&Jv b a.2.1 with
  |true=>
   rw[e]at c;cases c;rw[Aie]at e;have g:=i.1;rw[Aie,Aie,Aie]at g;refine⟨a.1,Aim g.1.1,Aa.LH e.1,?_,by simpa using g.1.2,?_,sP g.2.2⟩;.rw[Nl _ e.2];exact j a (Ai0 ..)
   .rw[Nl _ e.2];exact g.2.1
  |false=>rw[e]at c;exact lg (λa k=>j a (Ai1 _ k)) i.2 d b f c
def ny:(T5.all λa=>(Nat.blt a.1 1000000&& !Pb (Ar a.1))&&(a.2.1.all Mr&&YE a.2.2))=L:=by kernel_rfl
def lf(c:Aa)(a:C F)(d:F)(b:M8 c a=A d):ax c a d:=by
 unfold M8 at b;split at b
 .rename_i f e;cases b
  exact Acp c a _ e
 .exact lg nz ny c a d b
def Aco:Ru P9 M8:=λk h l a e=>by obtain⟨j,b,g,d,_,f,i,c⟩:=lf _ _ _ e;have:=lj a b g;subst this;exact aA (u:=Jm P9) (w:=KJ) (v:=λ_ _=>O) (by kernel_rfl) eH (ll _) a (d.at f G.Az) c
def W5:Bh:=W M8 Pb (Jm P9)
def gk:Bh:=Qh SQ
def X5:Bh:=λc a b=>An (Aa.eq c (Ar 16)) (xx gk 16 a b) (Qh M8 c a b)
def jy{e:Aa->C F->Aj F}(i:∀c b d,e c b=A d->M8 c b=A d):EP (Qh e) W5:=λc b g d a=>by
 unfold Qh at a;split at a
 .rename_i m j;split at a
  .rename_i n k;cases a
   have f:=i _ _ _ k;obtain⟨l,_,rfl,_,h,_⟩:=lf _ _ _ f;refine S5 (c:=0) ?_;unfold JV;rw[h];show Iv M8 (Ht (Jm P9) 0 W5) (Ar l) b g=_;unfold Iv;rw[j];simp only[f]
  .cases a
 .cases a
variable{c:Bh}{d:G}
def l4{e:D}(o:LO e)(n:EP c W5){b:C F}{f:F×G}(g:xx c e b d=A f):∃a,Ht (Jm P9) a W5 (Ar e) b d=A f:=by
 obtain⟨l,i,j,k,p,_⟩:=WJ (Lj o);have h:Q7 c l b d=A f:=by rw[Z4 k,<-j];exact g
 obtain⟨a,m⟩:=Z5 h;exact⟨a,by unfold Ht;rw[i];exact a6 n (C6 a) m⟩
def w6{a:D}(k:LO a)(j:Pb (Ar a)=L)(i:EP c W5){b:C F}{e:F×G}(g:xx c a b d=A e):W5 (Ar a) b d=A e:=by obtain⟨f,h⟩:=l4 k i g;refine S5 (c:=f) ?_;unfold JV;rw[j];exact h
def Ae1{a:D}(j:LO a)(i:Pb (Ar a)=Ac)(k:M8 (Ar a) []=O)(h:EP c W5)(e:xx c a [] G.Az=A (.b L,d)):W5 (Ar a) [] G.Az=A (.b L,G.Az):=by obtain⟨b,g⟩:=l4 j h e;refine S5 (c:=b) ?_;unfold JV;rw[i];show Iv M8 (Ht (Jm P9) b W5) (Ar a) [] G.Az=_;unfold Iv;have f:F9 G.Az []=A ([],G.Az):=B;rw[f];simp only[k,g];rw[O5 (b:=.b L) B d]
def qQ{g:Type}{b:Ak}{a e d:g}(f:b=L)(c:An b a e=d):a=d:=by rw[f]at c;exact c
def qP{g:Type}{b:Ak}{e a d:g}(f:b=Ac)(c:An b e a=d):a=d:=by rw[f]at c;exact c
def wX:EP gk W5:=jy (e:=SQ) λc b d a=>by unfold M8;simp only[a]
def ve:Pb (Ar 16)=L:=by kernel_rfl
def vf:Pb (Ar 5)=Ac:=by kernel_rfl
def no5:M8 (Ar 5) []=O:=by kernel_rfl
def qy:EP X5 W5:=λd e c f b=>by
 unfold X5 at b
 cases a:Aa.eq d (Ar 16)with
 |true=>rw[Aa.LH a];exact w6 B ve wX (qQ a b)
 |false=>exact jy (λ_ _ _ c=>c) d e c f (qP a b)
set_option maxRecDepth 100000 in
theorem rE:(xx X5 5 [] G.Az).map (·.1)=A (.b L):=by rw[r5];simp only[AcK];kernel_rfl
def Abr:P6 P9 5 [] (.b L):=by
 have a:=rE
 cases b:xx X5 5 [] G.Az with
 |none=>rw[b]at a;cases a
 |some c=>rw[b]at a;have a:A c.1=A (.b L):=a;obtain⟨d,f⟩:=c;have a:d=.b L:=AiI a;subst a;have e:=Ae1 B vf no5 qy b;exact aA (u:=Jm P9) (w:=Pb) (v:=M8) (by kernel_rfl) eH Aco (by decide) e (O5 (b:=.b L) B _)
end Go.Proofs.YtmnfpdedgnfeiaaGreat
namespace Go.Proofs.YtmnfpdedgnfeiaaGreat
def pM:Rows.closureNamesRow.wf (OpenSpec.ofChange Rows.closureNamesSpec)=L:=by kernel_rfl
def qa:namedTie Tryz.prog Rows.closureNamesRow.named Rows.closureNamesSpec.vars=L:=by kernel_rfl
def qe:(Tryz.prog.stopKnobs==[])=L:=by kernel_rfl
def pQ:(Rows.closureNamesRow.named==Tryz.prog.varsNamed 5)=L:=by kernel_rfl
def pU:(Rows.closureNamesRow.loops==(Tryz.f5.params.l++Rows.closureNamesSpec.plain.varTypes Tryz.prog).any (Tryz.prog.loopsFrom ·))=L:=by kernel_rfl
def pZ:(Rows.closureNamesRow.ifacesOut==Tryz.f5.resultTypes.l.any (Tryz.prog.ifacesRec ·))=L:=by kernel_rfl
def p3:Tryz.prog.stopsHeard=L:=by kernel_rfl
def pN:laidOutB Tryz.prog=L:=by kernel_rfl
def qb:(Rows.closureNamesRow.stops==[])=L:=by kernel_rfl
def qf:(Rows.closureNamesRow.inPlace==Tryz.prog.inPlace 5)=L:=by kernel_rfl
def pR:(Rows.closureNamesRow.maps==(Tryz.f5.params.l++Rows.closureNamesSpec.plain.varTypes Tryz.prog).any (Tryz.prog.mapsRec ·))=L:=by kernel_rfl
def pV:(Rows.closureNamesRow.wideKeys==(Tryz.f5.params.l++Rows.closureNamesSpec.plain.varTypes Tryz.prog++Tryz.f5.resultTypes.l).any (Tryz.prog.wideKeysFrom ·))=L:=by kernel_rfl
def p0:(Rows.closureNamesRow.loopsOut==Tryz.f5.resultTypes.l.any (Tryz.prog.loopsFrom ·))=L:=by kernel_rfl
def p4:Tryz.prog.mayEnter=L:=by kernel_rfl
def p7:(Rows.closureNamesRow.pinned==Rows.closureNamesRow.pinnedBy)=L:=by kernel_rfl
def pY:mapsRowed Tryz.prog=L:=by kernel_rfl
def qc:(Tryz.prog.stops==[])=L:=by kernel_rfl
def pO:(Rows.closureNamesRow.unfollowed==Tryz.prog.unfollowed 5)=L:=by kernel_rfl
def pS:(Rows.closureNamesRow.ifaces==(Tryz.f5.params.l++Rows.closureNamesSpec.plain.varTypes Tryz.prog).any (Tryz.prog.ifacesRec ·))=L:=by kernel_rfl
def pW:Rows.closureNamesSpec.vars.all (Tryz.prog.varReadable ·)=L:=by kernel_rfl
def p1:(Rows.closureNamesRow.plainKeys==Tryz.prog.plainKeys)=L:=by kernel_rfl
def p5:(Rows.closureNamesRow.lifted==Tryz.prog.liftsFinal)=L:=by kernel_rfl
def p9:(Rows.closureNamesRow.veiled==(Tryz.f5.params.l++Rows.closureNamesSpec.plain.varTypes Tryz.prog++Tryz.f5.resultTypes.l).any (Tryz.prog.veiledRec ·))=L:=by kernel_rfl
def p8:Tryz.f5.params.all (Tryz.prog.readableRec ·)=L:=by kernel_rfl
def qd:(Rows.closureNamesRow.knobs==[])=L:=by kernel_rfl
def pP:(Rows.closureNamesRow.recurses==Tryz.prog.recurses 5)=L:=by kernel_rfl
def pT:(Rows.closureNamesRow.mapsOut==Tryz.prog.mapsAmong Tryz.f5.resultTypes.l)=L:=by kernel_rfl
def pX:Tryz.f5.resultTypes.all (λa=>Tryz.prog.readableRec a&&Au (a<Tryz.prog.types.z))=L:=by kernel_rfl
def p2:Rows.closureNamesRow.shortTexts.isNone=L:=by kernel_rfl
def p6:(Tryz.prog.make==A Rows.closureNamesRow.make)=L:=by kernel_rfl
def p_:Rows.closureNamesRow.veiledFits Tryz.prog Tryz.f5.params.l (Tryz.f5.params.l++Rows.closureNamesSpec.plain.varTypes Tryz.prog++Tryz.f5.resultTypes.l)=L:=by kernel_rfl
def qF:joinedFacts Tryz.prog 5 Tryz.f5 Rows.closureNamesSpec Rows.closureNamesRow=L:=by unfold joinedFacts;exact(Dc (Dc (Dc (Dc (Dc (Dc (Dc (Dc (Dc (Dc (Dc (Dc (Dc (Dc (Dc (Dc (Dc (Dc (Dc (Dc (Dc (Dc (Dc (Dc (Dc (Dc (Dc (Dc (Dc (Dc (Dc pM pN) pY) p8) qa) qb) qc) qd) qe) qf) pO) pP) pQ) pR) pS) pT) pU) pV) pW) pX) pZ) p0) p1) p2) p3) p4) p5) p6) (by kernel_rfl)) p7) p9) p_)
def Abq:Tryz.prog.funcNamed Rows.closureNamesRow.func=A 5:=by kernel_rfl
def Afi:Func.isWrapper Tryz.prog Tryz.f5 Rows.closureNamesRow.wrapper Rows.closureNamesRow.mainSum:=by unfold Func.isWrapper;first|(rw[Af (by decide+kernel)];kernel_rfl)|(rw[Ad (by decide+kernel)];exact⟨B,B⟩)
def vo:Tryz.f5.isInstance Tryz.prog Rows.closureNamesRow.origin Rows.closureNamesRow.targs:=Go.Fg.AjP (by kernel_rfl)
end Go.Proofs.YtmnfpdedgnfeiaaGreat
namespace Go.Fg
def qG{f:Program}{h:D}(e:P6 f h [] (.b L))(c:BH):Calls f h #[] c λg i=>g=.returned (.bool L)/\RowKit.Grown c i:=by
 have n:HR (A0.FH ⟨λ_=>O,λ_ _ _=>False⟩) G.Az c:=
  {E4:=λj p q e=>e.elim
   Fw:=λb j d w p q a=>by rw[G.Mm]at a;cases a
   BB:=λb j d a=>by rw[G.Mm]at a;cases a
   C3:=λk t r s a=>A_ (G.Mm k) a
   lt:=λb d a=>by cases a
   Fq:=λb a=>A_ (G.Mm b) a}
 refine(e.2 ⟨λ_=>O,λ_ _ _=>False⟩ c #[] .nil n).mono λg i m=> ?_;obtain⟨v,x,u,rfl,o,l⟩:=m;cases o
 exact⟨B,l.cy λb d a=>by cases a⟩
