/- closureNames: floodgatelaw09.ClosureNames returns true and changes nothing (errors, and what faults and holes do), on every tape and in every world. Conditions: none. -/
import Derived.Test.YtmnfpdedgnfeiaaGreatRows
import Derived.WalkKit
import Derived.ProofKit
import Derived.OpenShut
import Derived.Test.YtmnfpdedgnfeiaaGreatMbw
set_option linter.all false
noncomputable section
open _root_ renaming rfl->B,List->C
open Bool renaming true->L,false->Ac
open Option renaming none->O
open Go renaming Value->Bl,TypeId->B9
open List renaming length->List.l
open Array renaming toList->Array.l
namespace Go.Proofs.YtmnfpdedgnfeiaaGreat
open Go.Fg Go.ChangeShapes Go.WideShapes Go.ChangeAt Go.RowKit
def Ab7:ownKnob Tryz.prog.godebug=O:=by kernel_rfl
set_option maxRecDepth 100000 in
theorem w3 (h:Os) (p:h.Started) (i:Type) (a:B9×Bl->i):ReturnsInHanded {} Tryz.checked h 5 .any (Rows.closureNamesSpec.pre6 a Tryz.prog Tryz.f5 Rows.closureNamesRow.domain Ac) (Rows.closureNamesSpec.post a Tryz.prog Tryz.f5 Ac L Ac Ac):=by
 refine returnsInHanded_of_change (C:=Tryz.checked) Ab7 p (by kernel_rfl) Tryz.func5
  (ChangeSpec.witness6 (enc:=a) (C:=Tryz.checked) Ac ⟨#[],#[],[]⟩ 8 (by kernel_rfl) (by kernel_rfl) (by kernel_rfl) (by kernel_rfl)) ?_
 intro b r j k u s n e v _;have f:=e;obtain⟨o,y,d,l,rfl,w,x⟩:=e;have c:DataW.TrodAll a Tryz.prog b 0 (λ_=>L) L Tryz.f5.params.l j.l k o:=d;rw[Tryz.params5]at c;obtain⟨rfl,rfl,rfl⟩:=trodAll_none c;obtain⟨rfl,rfl⟩:=trodVars_none l;clear d n;simp only[Aiy]at f;refine(qG Abr b).mono λt q ⟨m,g⟩=> ?_;subst m;exact⟨_,B,post_of_same (pa:=[]) (pv:=[]) f (λ_ _ _=>trodAll_mk1 (shut_bool Tryz.underlying4 _)) (λz _=>B) (λ_ _=>B) B
  (g.frame _) g.2.1 (ok_one (by kernel_rfl) B (okWide_bool_mk Tryz.underlying4 _))⟩
def closureNames:Rows.ClosureNamesSaid:=
 OpenClaim.holds_of_wide 5 Tryz.f5 B B B B B B B ⟨B,B,B,B,B⟩ B B B B B Abq Tryz.func5 qF vo Afi
  (λc d a b _=>w3 c d a b)
