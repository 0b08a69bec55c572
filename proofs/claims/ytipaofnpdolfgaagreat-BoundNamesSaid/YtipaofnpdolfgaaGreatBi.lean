/- All are live. -/
import Derived.Test.YtipaofnpdolfgaaGreatH0
import Derived.Test.YtipaofnpdolfgaaGreatH1
namespace Go.Proofs.YtipaofnpdolfgaaGreat
open Go.Fg
noncomputable def tblH : List LE := [eh0, eh1, eh2, eh3, eh4, eh5, eh6]
theorem tblH_live : ∀ e ∈ tblH, LiveP P9 e :=
  liveCons (liveK lh0 (by decide)) <| liveCons (liveK lh1 (by decide)) <| liveCons (liveK lh2 (by decide)) <| liveCons (liveK lh3 (by decide)) <| liveCons (liveK lh4 (by decide)) <| liveCons (liveK lh5 (by decide)) <| liveCons (liveT27 lh6 (by decide)) <| liveNil
end Go.Proofs.YtipaofnpdolfgaaGreat
/- awake. -/
namespace Go.Proofs.YtipaofnpdolfgaaGreat
open Go.Fg
noncomputable def orH : CallF := forO [9, 10, 11, 12, 19, 25, 27] (liveO tblH)
theorem orH_sim : CSim P9 orH ∧ CUp orH := forO_sim (liveO_sim tblH_live)
noncomputable def cfH : CallF := callX orH (tab P9 Z9) 100000000 1000
theorem cfH_sim : CSim P9 cfH := callX_sound (Z := Z9) hm9 tab_ok orH_sim 1000
theorem aw : goC cfH 7 [] (.b true) = true := by kernel_rfl
theorem awake_tells : Tells P9 7 [] (.b true) := goC_tells cfH_sim (by decide) aw
end Go.Proofs.YtipaofnpdolfgaaGreat
