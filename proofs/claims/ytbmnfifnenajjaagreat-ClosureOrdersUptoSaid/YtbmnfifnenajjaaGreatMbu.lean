/- closureOrders: for any blocks, inputs and picks, floodgatelaw09.ClosureOrders returns true and changes nothing (what Order gives is what the document says), on every tape and in every world. Conditions: what the call reads has a bulk of at most 1048576, as the statement says. -/
import Derived.Test.YtbmnfifnenajjaaGreatRows
import Derived.WalkKit
import Derived.ProofKit
import Derived.OpenShut
import Derived.JoinedCond
import Derived.Test.YtbmnfifnenajjaaGreatMbt
set_option linter.all false
noncomputable section
open Option renaming some->A,none->O
open _root_ renaming rfl->B,List->C,Nat->D,Array->Bg
open Bool renaming true->L,false->Aa
open Go renaming Value->Ba,World->By,TypeId->BQ
open List renaming length->List.l
open Array renaming toList->Array.l
namespace Go.Proofs.YtbmnfifnenajjaaGreat
open Go.Fg Go.ChangeShapes Go.WideShapes Go.ChangeAt Go.RowKit
set_option maxRecDepth 100000 in
theorem AhO (e:Type) (g:BQ×Ba->e) (a:By) (v:D) (b:Bg Ba) (f n:C (DataW e)) (w:C MemPlace) (r:∀(s:D) u c,Tryz.f4.params[s]? =A u->b[s]? =A c->Value.okWide Tryz.prog a .any v u c) (p:DataW.Whole g Tryz.prog Tryz.f4.params.l Rows.closureOrdersSpec.vars Aa a b.l f n w) (J:Rows.uptoSmall e (f++n)=L):Calls Tryz.prog 4 b a λm l=>∃c,m=.returned c/\Rows.closureOrdersSpec.post g Tryz.prog Tryz.f4 Aa L Aa Aa a b c l:=by
 have d:=r;have q:=p;obtain⟨V,xj,o,F,rfl,xg,xh⟩:=p;have h:DataW.TrodAll g Tryz.prog a 0 (λ_=>L) L Tryz.f4.params.l b.l f V:=o;have E:=h;rw[Tryz.params4]at h d;obtain⟨j,Z,k,xd,xe,xf,W,X,Y,rfl,rfl,rfl,x,y,z⟩:=trodAll_three h;obtain⟨rfl,rfl⟩:=trodVars_none F;obtain⟨P,Q,R⟩:=Ah5 (by simpa only[Ad5]using J);obtain⟨xl,U,xc⟩:=v8.S Tryz.underlying26 (d 1 26 Z B B) y Q;have G:j.cells= #[j]:=by obtain⟨_,_,_,rfl⟩:=okWide_slice Tryz.underlying22 (d 0 22 j B B);rfl
 obtain⟨S,t,xa⟩:=v5.Ld G x P;have H:k.cells= #[k]:=by obtain⟨_,_,_,rfl⟩:=okWide_slice Tryz.underlying44 (d 2 44 k B B);rfl
 obtain⟨xi,T,xb⟩:=v_.Ld H z R;clear o r;simp only[Ad5]at q;have M:IZ S:=⟨AeK t.2 (by decide),t.1⟩;refine(tf (Ah9 M U (AeK T.2 (by decide))) (.cons _ _ _ _ xa (.cons _ _ _ _ xc (.cons _ _ _ _ xb .nil)))).mono λm l ⟨I,i⟩=> ?_;subst I;exact⟨_,B,post_of_same (pa:=W++X++Y) (pv:=[]) q (λ_ _ _=>trodAll_mk1 (shut_bool Tryz.underlying4 _)) (λxk N=>kq tc wE oZ i (by rw[Tryz.params4];decide+kernel) E N) (λ_ _=>B) (by simp)
  (i.frame _) i.2.1 (ok_one (by kernel_rfl) B (okWide_bool_mk Tryz.underlying4 _))⟩
set_option maxRecDepth 100000 in
theorem AhU (c:Os) (o:c.Started) (b:Type) (a:BQ×Ba->b) (d:Stop.Interp):ReturnsInHanded {} Tryz.checked c 4 .any ((Rows.OpenSpec.upto Rows.closureOrdersSpec).pre6 a Tryz.prog Tryz.f4 Rows.closureOrdersUptoRow.domain Aa) (((Rows.OpenSpec.upto Rows.closureOrdersSpec).at d).post a Tryz.prog Tryz.f4 Aa L Aa Aa):=by
 refine returnsInHanded_of_cond (C:=Tryz.checked) (s:=Rows.OpenSpec.upto Rows.closureOrdersSpec) (k:=Rows.uptoSmall) B Cs o (by kernel_rfl) Tryz.func4
  (OpenSpec.witness (enc:=a) (C:=Tryz.checked) (s:=Rows.OpenSpec.upto Rows.closureOrdersSpec) (k:=Rows.uptoSmall) B Aa ⟨#[],#[.slice O 0 0,.agg #[.slice O 0 0,.slice O 0 0],.slice O 0 0],[]⟩ 8 (by kernel_rfl) (by kernel_rfl) (by kernel_rfl)
   (x:=([.nil,.agg [.nil,.nil],.nil],[],[])) (by kernel_rfl) B (by kernel_rfl)) ?_
 intro e g f i j h n l _ m _;exact AhO b a e g f i j h n l m
def closureOrders:Rows.ClosureOrdersUptoSaid:=
 OpenClaim.holds_of_cond 4 Tryz.f4 B B B B B B B ⟨B,B,B,B,B⟩ B B B B B AhV Tryz.func4 AhN AhQ Aib
  (λd e b c _ a=>AhU d e b c a)
