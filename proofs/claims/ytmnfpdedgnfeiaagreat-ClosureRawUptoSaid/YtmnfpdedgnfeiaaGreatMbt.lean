/- closureRaw: for any blocks, inputs and picks, floodgatelaw09.ClosureRaw returns true and changes nothing (Run ends without an error just if Order does, and then both outcomes agree), on every tape and in every world. Conditions: what the call reads has a bulk of at most 1048576, as the statement says. -/
import Derived.Test.YtmnfpdedgnfeiaaGreatRows
import Derived.WalkKit
import Derived.ProofKit
import Derived.OpenShut
import Derived.JoinedCond
import Derived.Test.YtmnfpdedgnfeiaaGreatMbr
import Derived.Test.YtmnfpdedgnfeiaaGreatMbs
set_option linter.all false
noncomputable section
open Option renaming some->A,none->O,bind->Option.b
open _root_ renaming rfl->B,List->C,Nat->D,Int->K,Array->Br
open Bool renaming true->L,false->Ac
open Go renaming Value->Bl,World->BH,TypeId->B9
open List renaming length->List.l
open Array renaming toList->Array.l
namespace Go.Proofs.YtmnfpdedgnfeiaaGreat
open Go.Fg Go.ChangeShapes Go.WideShapes Go.ChangeAt Go.RowKit
def AeV{b:C Ab}{d:AS}{a:C K}(e:Jw b)(h:d.CA)(f:∀c∈a,0<=c/\c<=255)(g:a.l<1000000000):P6 P9 4 [Z Ab.c b,.S (AS.c d),Z Ky a] (.b L):=
 aA (u:=Jm P9) (w:=KJ) (v:=λ_ _=>O) (by kernel_rfl) eH (ll _) (by decide) ((wR g6 e h f g).at B G.Az) (O5 (b:=.b L) B _)
set_option maxRecDepth 100000 in
theorem qV (e:Type) (g:B9×Bl->e) (a:BH) (x:D) (b:Br Bl) (f o:C (DataW e)) (y:C MemPlace) (s:∀(t:D) w c,Tryz.f4.params[t]? =A w->b[t]? =A c->Value.okWide Tryz.prog a .any x w c) (q:DataW.Whole g Tryz.prog Tryz.f4.params.l Rows.closureRawSpec.vars Ac a b.l f o y) (N:Rows.uptoSmall e (f++o)=L):Calls Tryz.prog 4 b a λn m=>∃c,n=.returned c/\Rows.closureRawSpec.post g Tryz.prog Tryz.f4 Ac L Ac Ac a b c m:=by
 have d:=s;have r:=q;obtain⟨j,xk,p,H,rfl,xh,xi⟩:=q;have h:DataW.TrodAll g Tryz.prog a 0 (λ_=>L) L Tryz.f4.params.l b.l f j:=p;have G:=h;rw[Tryz.params4]at h d;obtain⟨k,xa,l,xe,xf,xg,X,Y,Z,rfl,rfl,rfl,z,E,F⟩:=trodAll_three h;obtain⟨rfl,rfl⟩:=trodVars_none H;obtain⟨S,T,U⟩:=Aeo (by simpa only[Aiy]using N);obtain⟨xm,W,xd⟩:=Ade.S Tryz.underlying30 (d 1 30 xa B B) E T;have I:k.cells= #[k]:=by obtain⟨_,_,_,rfl⟩:=okWide_slice Tryz.underlying26 (d 0 26 k B B);rfl
 obtain⟨V,u,xb⟩:=Ada.F_ I z S;have J:l.cells= #[l]:=by obtain⟨_,_,_,rfl⟩:=okWide_slice Tryz.underlying22 (d 2 22 l B B);rfl
 obtain⟨xj,v,xc⟩:=Ac9.F_ J F U;clear p s;simp only[Aiy]at r;have P:Jw V:=⟨Ajd u.2 (by decide),u.1⟩;refine(wS (AeV P W (λj Q=>v.1 j Q) (Ajd v.2 (by decide))) (.cons _ _ _ _ xb (.cons _ _ _ _ xd (.cons _ _ _ _ xc .nil)))).mono λn m ⟨M,i⟩=> ?_;subst M;exact⟨_,B,post_of_same (pa:=X++Y++Z) (pv:=[]) r (λ_ _ _=>trodAll_mk1 (shut_bool Tryz.underlying4 _)) (λxl R=>m1 wP AdL TW i (by rw[Tryz.params4];decide+kernel) G R) (λ_ _=>B) (by simp)
  (i.frame _) i.2.1 (ok_one (by kernel_rfl) B (okWide_bool_mk Tryz.underlying4 _))⟩
set_option maxRecDepth 100000 in
theorem w2 (c:Os) (o:c.Started) (b:Type) (a:B9×Bl->b) (d:Stop.Interp):ReturnsInHanded {} Tryz.checked c 4 .any ((Rows.OpenSpec.upto Rows.closureRawSpec).pre6 a Tryz.prog Tryz.f4 Rows.closureRawUptoRow.domain Ac) (((Rows.OpenSpec.upto Rows.closureRawSpec).at d).post a Tryz.prog Tryz.f4 Ac L Ac Ac):=by
 refine returnsInHanded_of_cond (C:=Tryz.checked) (s:=Rows.OpenSpec.upto Rows.closureRawSpec) (k:=Rows.uptoSmall) B CC o (by kernel_rfl) Tryz.func4
  (OpenSpec.witness (enc:=a) (C:=Tryz.checked) (s:=Rows.OpenSpec.upto Rows.closureRawSpec) (k:=Rows.uptoSmall) B Ac ⟨#[],#[.slice O 0 0,.agg #[.slice O 0 0,.slice O 0 0],.slice O 0 0],[]⟩ 8 (by kernel_rfl) (by kernel_rfl) (by kernel_rfl)
   (x:=([.nil,.agg [.nil,.nil],.nil],[],[])) (by kernel_rfl) B (by kernel_rfl)) ?_
 intro e g f i j h n l _ m _;exact qV b a e g f i j h n l m
def closureRaw:Rows.ClosureRawUptoSaid:=
 OpenClaim.holds_of_cond 4 Tryz.f4 B B B B B B B ⟨B,B,B,B,B⟩ B B B B B Abp Tryz.func4 qE vn Afh
  (λd e b c _ a=>w2 d e b c a)
