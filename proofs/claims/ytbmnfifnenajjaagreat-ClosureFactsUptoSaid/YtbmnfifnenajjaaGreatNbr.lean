/- closureFacts: for any blocks, inputs and number of rounds, floodgatelaw09.ClosureFacts returns true and changes nothing (what After and Final give is what the document says), on every tape and in every world. Conditions: what the call reads has a bulk of at most 1048576, as the statement says. -/
import Derived.Test.YtbmnfifnenajjaaGreatRows
import Derived.WalkKit
import Derived.ProofKit
import Derived.OpenShut
import Derived.JoinedCond
import Derived.Test.YtbmnfifnenajjaaGreatNbq
set_option linter.all false
noncomputable section
open Option renaming some->A,none->O
open _root_ renaming rfl->B,List->C,Nat->D,Array->Bg
open Bool renaming true->L,false->Aa
open Go renaming Value->Ba,World->By,TypeId->BQ
open List renaming length->List.l
open Go.IntKind renaming i64->Go.IntKind.n
open Array renaming toList->Array.l
open Int renaming toNat->Int.n
namespace Go.Proofs.YtbmnfifnenajjaaGreat
open Go.Fg Go.ChangeShapes Go.WideShapes Go.ChangeAt Go.RowKit
set_option maxRecDepth 100000 in
theorem AjB (e:Type) (g:BQ×Ba->e) (a:By) (v:D) (b:Bg Ba) (f n:C (DataW e)) (w:C MemPlace) (r:∀(s:D) u c,Tryz.f6.params[s]? =A u->b[s]? =A c->Value.okWide Tryz.prog a .any v u c) (p:DataW.Whole g Tryz.prog Tryz.f6.params.l Rows.closureFactsSpec.vars Aa a b.l f n w) (J:Rows.uptoSmall e (f++n)=L):Calls Tryz.prog 6 b a λm l=>∃c,m=.returned c/\Rows.closureFactsSpec.post g Tryz.prog Tryz.f6 Aa L Aa Aa a b c l:=by
 have d:=r;have q:=p;obtain⟨U,xj,o,F,rfl,xg,xh⟩:=p;have h:DataW.TrodAll g Tryz.prog a 0 (λ_=>L) L Tryz.f6.params.l b.l f U:=o;have E:=h;rw[Tryz.params6]at h d;obtain⟨j,Z,k,xd,xe,xf,V,W,X,rfl,rfl,rfl,x,y,z⟩:=trodAll_three h;obtain⟨rfl,rfl⟩:=trodVars_none F;obtain⟨P,Q,R⟩:=Ah5 (by simpa only[Ad5]using J);obtain⟨xl,T,xc⟩:=v8.S Tryz.underlying26 (d 1 26 Z B B) y Q;have G:j.cells= #[j]:=by obtain⟨_,_,_,rfl⟩:=okWide_slice Tryz.underlying22 (d 0 22 j B B);rfl
 obtain⟨S,t,xa⟩:=v5.Ld G x P;have H:k.cells= #[k]:=by obtain⟨_,rfl⟩:=okWide_int Tryz.underlying3 (d 2 3 k B B);rfl
 obtain⟨Y,xi,xb⟩:=VE.Ld H z R;clear o r;simp only[Ad5]at q;have M:IZ S:=⟨AeK t.2 (by decide),t.1⟩;refine(tf (AjR Y M T) (.cons _ _ _ _ xa (.cons _ _ _ _ xc (.cons _ _ _ _ xb .nil)))).mono λm l ⟨I,i⟩=> ?_;subst I;exact⟨_,B,post_of_same (pa:=V++W++X) (pv:=[]) q (λ_ _ _=>trodAll_mk1 (shut_bool Tryz.underlying4 _)) (λxk N=>kq tc wE oZ i (by rw[Tryz.params6];decide+kernel) E N) (λ_ _=>B) (by simp)
  (i.frame _) i.2.1 (ok_one (by kernel_rfl) B (okWide_bool_mk Tryz.underlying4 _))⟩
set_option maxRecDepth 100000 in
theorem AjJ (c:Os) (o:c.Started) (b:Type) (a:BQ×Ba->b) (d:Stop.Interp):ReturnsInHanded {} Tryz.checked c 6 .any ((Rows.OpenSpec.upto Rows.closureFactsSpec).pre6 a Tryz.prog Tryz.f6 Rows.closureFactsUptoRow.domain Aa) (((Rows.OpenSpec.upto Rows.closureFactsSpec).at d).post a Tryz.prog Tryz.f6 Aa L Aa Aa):=by
 refine returnsInHanded_of_cond (C:=Tryz.checked) (s:=Rows.OpenSpec.upto Rows.closureFactsSpec) (k:=Rows.uptoSmall) B Cs o (by kernel_rfl) Tryz.func6
  (OpenSpec.witness (enc:=a) (C:=Tryz.checked) (s:=Rows.OpenSpec.upto Rows.closureFactsSpec) (k:=Rows.uptoSmall) B Aa ⟨#[],#[.slice O 0 0,.agg #[.slice O 0 0,.slice O 0 0],.int .n 0],[]⟩ 8 (by kernel_rfl) (by kernel_rfl) (by kernel_rfl)
   (x:=([.nil,.agg [.nil,.nil],.lit (.int .n 0)],[],[])) (by kernel_rfl) B (by kernel_rfl)) ?_
 intro e g f i j h n l _ m _;exact AjB b a e g f i j h n l m
def closureFacts:Rows.ClosureFactsUptoSaid:=
 OpenClaim.holds_of_cond 6 Tryz.f6 B B B B B B B ⟨B,B,B,B,B⟩ B B B B B AjL Tryz.func6 AjA AjH AjS
  (λd e b c _ a=>AjJ d e b c a)
