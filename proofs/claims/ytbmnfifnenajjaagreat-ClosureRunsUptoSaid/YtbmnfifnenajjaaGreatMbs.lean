/- closureRuns: for any blocks and inputs, floodgatelaw09.ClosureRuns returns true and changes nothing (what Run gives is what the document says), on every tape and in every world. Conditions: what the call reads has a bulk of at most 1048576, as the statement says. -/
import Derived.Test.YtbmnfifnenajjaaGreatRows
import Derived.WalkKit
import Derived.ProofKit
import Derived.OpenShut
import Derived.JoinedCond
import Derived.Test.YtbmnfifnenajjaaGreatMbr
set_option linter.all false
noncomputable section
open Option renaming some->A,none->O
open _root_ renaming rfl->B,List->C,Nat->D,Array->Bg
open Bool renaming true->L,false->Aa
open Go renaming Value->Ba,World->By,TypeId->BQ
open List renaming length->List.l
open Array renaming toList->Array.l
namespace Go.Proofs.YtbmnfifnenajjaaGreat
open Go.Fg Go.ChangeShapes Go.WideShapes Go.ChangeAt Go.RowKit
set_option maxRecDepth 100000 in
theorem ng (d:Type) (f:BQ×Ba->d) (a:By) (u:D) (b:Bg Ba) (e m:C (DataW d)) (v:C MemPlace) (q:∀(r:D) t c,Tryz.f3.params[r]? =A t->b[r]? =A c->Value.okWide Tryz.prog a .any u t c) (o:DataW.Whole f Tryz.prog Tryz.f3.params.l Rows.closureRunsSpec.vars Aa a b.l e m v) (G:Rows.uptoSmall d (e++m)=L):Calls Tryz.prog 3 b a λl k=>∃c,l=.returned c/\Rows.closureRunsSpec.post f Tryz.prog Tryz.f3 Aa L Aa Aa a b c k:=by
 have i:=q;have p:=o;obtain⟨Q,xa,n,z,rfl,Y,Z⟩:=o;have g:DataW.TrodAll f Tryz.prog a 0 (λ_=>L) L Tryz.f3.params.l b.l e Q:=n;have y:=g;rw[Tryz.params3]at g i;obtain⟨j,T,W,X,R,S,rfl,rfl,rfl,w,x⟩:=trodAll_two g;obtain⟨rfl,rfl⟩:=trodVars_none z;obtain⟨J,M⟩:=Aag (by simpa only[Ad5]using G);obtain⟨xc,P,V⟩:=v8.S Tryz.underlying26 (i 1 26 T B B) x M;have E:j.cells= #[j]:=by obtain⟨_,_,_,rfl⟩:=okWide_slice Tryz.underlying22 (i 0 22 j B B);rfl
 obtain⟨N,s,U⟩:=v5.Ld E w J;clear n q;simp only[Ad5]at p;have H:IZ N:=⟨AeK s.2 (by decide),s.1⟩;refine(tf (AaO H P) (.cons _ _ _ _ U (.cons _ _ _ _ V .nil))).mono λl k ⟨F,h⟩=> ?_;subst F;exact⟨_,B,post_of_same (pa:=R++S) (pv:=[]) p (λ_ _ _=>trodAll_mk1 (shut_bool Tryz.underlying4 _)) (λxb I=>kq tc wE oZ h (by rw[Tryz.params3];decide+kernel) y I) (λ_ _=>B) (by simp)
  (h.frame _) h.2.1 (ok_one (by kernel_rfl) B (okWide_bool_mk Tryz.underlying4 _))⟩
set_option maxRecDepth 100000 in
theorem tp (c:Os) (o:c.Started) (b:Type) (a:BQ×Ba->b) (d:Stop.Interp):ReturnsInHanded {} Tryz.checked c 3 .any ((Rows.OpenSpec.upto Rows.closureRunsSpec).pre6 a Tryz.prog Tryz.f3 Rows.closureRunsUptoRow.domain Aa) (((Rows.OpenSpec.upto Rows.closureRunsSpec).at d).post a Tryz.prog Tryz.f3 Aa L Aa Aa):=by
 refine returnsInHanded_of_cond (C:=Tryz.checked) (s:=Rows.OpenSpec.upto Rows.closureRunsSpec) (k:=Rows.uptoSmall) B Cs o (by kernel_rfl) Tryz.func3
  (OpenSpec.witness (enc:=a) (C:=Tryz.checked) (s:=Rows.OpenSpec.upto Rows.closureRunsSpec) (k:=Rows.uptoSmall) B Aa ⟨#[],#[.slice O 0 0,.agg #[.slice O 0 0,.slice O 0 0]],[]⟩ 8 (by kernel_rfl) (by kernel_rfl) (by kernel_rfl)
   (x:=([.nil,.agg [.nil,.nil]],[],[])) (by kernel_rfl) B (by kernel_rfl)) ?_
 intro e g f i j h n l _ m _;exact ng b a e g f i j h n l m
def closureRuns:Rows.ClosureRunsUptoSaid:=
 OpenClaim.holds_of_cond 3 Tryz.f3 B B B B B B B ⟨B,B,B,B,B⟩ B B B B B us Tryz.func3 m3 rL Aa8
  (λd e b c _ a=>tp d e b c a)
