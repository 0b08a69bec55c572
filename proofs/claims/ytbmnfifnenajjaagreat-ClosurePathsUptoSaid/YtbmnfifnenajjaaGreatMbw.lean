/- closurePaths: for any blocks, inputs, path and output, floodgatelaw09.ClosurePaths returns true and changes nothing (what Paths and At give is what the document says), on every tape and in every world. Conditions: what the call reads has a bulk of at most 1048576, as the statement says. -/
import Derived.Test.YtbmnfifnenajjaaGreatRows
import Derived.WalkKit
import Derived.ProofKit
import Derived.OpenShut
import Derived.JoinedCond
import Derived.Test.YtbmnfifnenajjaaGreatMbv
set_option linter.all false
noncomputable section
open Option renaming some->A,none->O
open _root_ renaming rfl->B,List->C,Nat->D,Array->Bg
open Bool renaming true->L,false->Aa
open Go renaming Value->Ba,World->By,TypeId->BQ
open List renaming length->List.l
open Go.IntKind renaming i64->Go.IntKind.n
open Array renaming toList->Array.l
open Int renaming toNat->Int.n
namespace Go.Proofs.YtbmnfifnenajjaaGreat
open Go.Fg Go.ChangeShapes Go.WideShapes Go.ChangeAt Go.RowKit
set_option maxRecDepth 100000 in
theorem Aif (e:Type) (g:BQ×Ba->e) (a:By) (u:D) (b:Bg Ba) (f m:C (DataW e)) (v:C MemPlace) (q:∀(r:D) t c,Tryz.f5.params[r]? =A t->b[r]? =A c->Value.okWide Tryz.prog a .any u t c) (o:DataW.Whole g Tryz.prog Tryz.f5.params.l Rows.closurePathsSpec.vars Aa a b.l f m v) (H:Rows.uptoSmall e (f++m)=L):Calls Tryz.prog 5 b a λl k=>∃c,l=.returned c/\Rows.closurePathsSpec.post g Tryz.prog Tryz.f5 Aa L Aa Aa a b c k:=by
 have d:=q;have p:=o;obtain⟨T,xi,n,E,rfl,xf,xg⟩:=o;have h:DataW.TrodAll g Tryz.prog a 0 (λ_=>L) L Tryz.f5.params.l b.l f T:=n;have z:=h;rw[Tryz.params5]at h d;obtain⟨j,X,Y,xc,xd,xe,U,V,W,rfl,rfl,rfl,w,x,y⟩:=trodAll_three h;obtain⟨rfl,rfl⟩:=trodVars_none E;obtain⟨M,N,P⟩:=Ah5 (by simpa only[Ad5]using H);obtain⟨xk,S,xb⟩:=v8.S Tryz.underlying26 (d 1 26 X B B) x N;have F:j.cells= #[j]:=by obtain⟨_,_,_,rfl⟩:=okWide_slice Tryz.underlying22 (d 0 22 j B B);rfl
 obtain⟨Q,s,Z⟩:=v5.Ld F w M;obtain⟨xh,R,xa⟩:=Aij.S Tryz.underlying56 (d 2 56 Y B B) y P;clear n q;simp only[Ad5]at p;have I:IZ Q:=⟨AeK s.2 (by decide),s.1⟩;refine(tf (Aik I S R) (.cons _ _ _ _ Z (.cons _ _ _ _ xb (.cons _ _ _ _ xa .nil)))).mono λl k ⟨G,i⟩=> ?_;subst G;exact⟨_,B,post_of_same (pa:=U++V++W) (pv:=[]) p (λ_ _ _=>trodAll_mk1 (shut_bool Tryz.underlying4 _)) (λxj J=>kq tc wE oZ i (by rw[Tryz.params5];decide+kernel) z J) (λ_ _=>B) (by simp)
  (i.frame _) i.2.1 (ok_one (by kernel_rfl) B (okWide_bool_mk Tryz.underlying4 _))⟩
set_option maxRecDepth 100000 in
theorem Aih (c:Os) (o:c.Started) (b:Type) (a:BQ×Ba->b) (d:Stop.Interp):ReturnsInHanded {} Tryz.checked c 5 .any ((Rows.OpenSpec.upto Rows.closurePathsSpec).pre6 a Tryz.prog Tryz.f5 Rows.closurePathsUptoRow.domain Aa) (((Rows.OpenSpec.upto Rows.closurePathsSpec).at d).post a Tryz.prog Tryz.f5 Aa L Aa Aa):=by
 refine returnsInHanded_of_cond (C:=Tryz.checked) (s:=Rows.OpenSpec.upto Rows.closurePathsSpec) (k:=Rows.uptoSmall) B Cs o (by kernel_rfl) Tryz.func5
  (OpenSpec.witness (enc:=a) (C:=Tryz.checked) (s:=Rows.OpenSpec.upto Rows.closurePathsSpec) (k:=Rows.uptoSmall) B Aa ⟨#[],#[.slice O 0 0,.agg #[.slice O 0 0,.slice O 0 0],.agg #[.slice O 0 0,.int .n 0,.int .n 0]],[]⟩ 8 (by kernel_rfl) (by kernel_rfl) (by kernel_rfl)
   (x:=([.nil,.agg [.nil,.nil],.agg [.nil,.agg [.lit (.int .n 0),.lit (.int .n 0)]]],[],[])) (by kernel_rfl) B (by kernel_rfl)) ?_
 intro e g f i j h n l _ m _;exact Aif b a e g f i j h n l m
def closurePaths:Rows.ClosurePathsUptoSaid:=
 OpenClaim.holds_of_cond 5 Tryz.f5 B B B B B B B ⟨B,B,B,B,B⟩ B B B B B Aii Tryz.func5 Aie Aig Ail
  (λd e b c _ a=>Aih d e b c a)
