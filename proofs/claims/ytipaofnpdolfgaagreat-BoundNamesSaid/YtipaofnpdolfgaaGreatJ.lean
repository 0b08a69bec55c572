/- All are live. -/
import Derived.Test.YtipaofnpdolfgaaGreatI0
import Derived.Test.YtipaofnpdolfgaaGreatI1
namespace Go.Proofs.YtipaofnpdolfgaaGreat
open Go.Fg
noncomputable def tblI : List LE := [ei0, ei1, ei2, ei3, ei4, ei5, ei6, ei7, ei8, ei9, ei10, ei11, ei12, ei13]
theorem tblI_live : ∀ e ∈ tblI, LiveP P9 e :=
  liveCons (liveU li0 (by decide)) <| liveCons (liveU li1 (by decide)) <| liveCons (liveU li2 (by decide)) <| liveCons (liveU li3 (by decide)) <| liveCons (liveU li4 (by decide)) <| liveCons (liveU li5 (by decide)) <| liveCons (liveU li6 (by decide)) <| liveCons (liveU li7 (by decide)) <| liveCons (liveU li8 (by decide)) <| liveCons (liveU li9 (by decide)) <| liveCons (liveU li10 (by decide)) <| liveCons (liveU li11 (by decide)) <| liveCons (liveU li12 (by decide)) <| liveCons (liveU li13 (by decide)) <| liveNil
end Go.Proofs.YtipaofnpdolfgaaGreat
/- BoundNames. -/
namespace Go.Proofs.YtipaofnpdolfgaaGreat
open Go.Fg
noncomputable def orI : CallF := forO [7, 12, 19, 21, 24, 25, 27, 28, 29] (liveO tblI)
theorem orI_sim : CSim P9 orI ∧ CUp orI := forO_sim (liveO_sim tblI_live)
noncomputable def cfI : CallF := callX orI (tab P9 Z9) 100000000 1000
theorem cfI_sim : CSim P9 cfI := callX_sound (Z := Z9) hm9 tab_ok orI_sim 1000
theorem bn : goC cfI 5 [] (.b true) = true := by kernel_rfl
theorem names_tells : Tells P9 5 [] (.b true) := goC_tells cfI_sim (by decide) bn
end Go.Proofs.YtipaofnpdolfgaaGreat
