/- The table of closures. -/
import Derived.Test.YtkfdbldnghcngaaGreatTa
import Derived.Test.YtkfdbldnghcngaaGreatTb
import Derived.Test.YtkfdbldnghcngaaGreatTc
import Derived.Test.YtkfdbldnghcngaaGreatTd
namespace Go.Proofs.YtkfdbldnghcngaaGreat.Fast
open Go.Fg
noncomputable def tree : PT FFn := (.nd (.nd (.nd (.nd (.nd (.nd (.nd (.nd (.nd .nil (some fn255) .nil) (some fn127) .nil) (some fn63) (.nd (.nd .nil none .nil) (some fn191) .nil)) none (.nd (.nd (.nd .nil (some fn287) .nil) (some fn159) .nil) none (.nd .nil (some fn223) .nil))) none (.nd (.nd (.nd (.nd .nil (some fn271) .nil) none .nil) none (.nd (.nd .nil none .nil) none .nil)) none (.nd (.nd (.nd .nil none .nil) (some fn175) .nil) none (.nd .nil (some fn239) .nil)))) none (.nd (.nd (.nd (.nd (.nd .nil (some fn263) .nil) none .nil) (some fn71) (.nd (.nd .nil none .nil) none .nil)) none (.nd (.nd (.nd .nil (some fn295) .nil) (some fn167) .nil) (some fn103) (.nd .nil (some fn231) .nil))) none (.nd (.nd (.nd (.nd .nil (some fn279) .nil) none .nil) none (.nd .nil none .nil)) none (.nd (.nd (.nd .nil (some fn311) .nil) (some fn183) .nil) (some fn119) (.nd .nil (some fn247) .nil))))) none (.nd (.nd (.nd (.nd (.nd (.nd .nil (some fn259) .nil) (some fn131) .nil) none (.nd (.nd .nil (some fn323) .nil) (some fn195) .nil)) none (.nd (.nd (.nd .nil (some fn291) .nil) none .nil) none (.nd .nil none .nil))) none (.nd (.nd (.nd (.nd .nil (some fn275) .nil) none .nil) (some fn83) (.nd (.nd .nil none .nil) none .nil)) none (.nd (.nd (.nd .nil none .nil) (some fn179) .nil) none (.nd .nil (some fn243) .nil)))) none (.nd (.nd (.nd (.nd (.nd .nil (some fn267) .nil) none .nil) none (.nd (.nd .nil none .nil) none .nil)) none (.nd (.nd (.nd .nil (some fn299) .nil) none .nil) none (.nd .nil none .nil))) none (.nd (.nd (.nd (.nd .nil (some fn283) .nil) (some fn155) .nil) (some fn91) (.nd .nil (some fn219) .nil)) none (.nd (.nd (.nd .nil (some fn315) .nil) (some fn187) .nil) (some fn123) (.nd .nil none .nil)))))) none (.nd (.nd (.nd (.nd (.nd (.nd (.nd .nil (some fn257) .nil) (some fn129) .nil) none (.nd (.nd .nil (some fn321) .nil) (some fn193) .nil)) none (.nd (.nd (.nd .nil (some fn289) .nil) (some fn161) .nil) (some fn97) (.nd .nil none .nil))) (some fn17) (.nd (.nd (.nd (.nd .nil (some fn273) .nil) none .nil) (some fn81) (.nd (.nd .nil none .nil) none .nil)) (some fn49) (.nd (.nd (.nd .nil none .nil) (some fn177) .nil) none (.nd .nil (some fn241) .nil)))) none (.nd (.nd (.nd (.nd (.nd .nil (some fn265) .nil) none .nil) (some fn73) (.nd (.nd .nil none .nil) none .nil)) (some fn41) (.nd (.nd (.nd .nil (some fn297) .nil) none .nil) none (.nd .nil (some fn233) .nil))) (some fn25) (.nd (.nd (.nd (.nd .nil (some fn281) .nil) (some fn153) .nil) none (.nd .nil none .nil)) none (.nd (.nd (.nd .nil (some fn313) .nil) (some fn185) .nil) none (.nd .nil (some fn249) .nil))))) none (.nd (.nd (.nd (.nd (.nd (.nd .nil none .nil) (some fn133) .nil) (some fn69) (.nd (.nd .nil none .nil) (some fn197) .nil)) none (.nd (.nd (.nd .nil (some fn293) .nil) none .nil) none (.nd .nil none .nil))) none (.nd (.nd (.nd (.nd .nil (some fn277) .nil) none .nil) none (.nd (.nd .nil none .nil) none .nil)) none (.nd (.nd (.nd .nil (some fn309) .nil) (some fn181) .nil) none (.nd .nil (some fn245) .nil)))) none (.nd (.nd (.nd (.nd (.nd .nil (some fn269) .nil) none .nil) none (.nd (.nd .nil none .nil) none .nil)) none (.nd (.nd (.nd .nil none .nil) none .nil) none (.nd .nil (some fn237) .nil))) (some fn29) (.nd (.nd (.nd (.nd .nil (some fn285) .nil) (some fn157) .nil) none (.nd .nil (some fn221) .nil)) (some fn61) (.nd (.nd (.nd .nil none .nil) (some fn189) .nil) (some fn125) (.nd .nil (some fn253) .nil))))))) none (.nd (.nd (.nd (.nd (.nd (.nd (.nd (.nd .nil none .nil) (some fn128) .nil) (some fn64) (.nd (.nd .nil (some fn320) .nil) (some fn192) .nil)) none (.nd (.nd (.nd .nil (some fn288) .nil) (some fn160) .nil) (some fn96) (.nd .nil (some fn224) .nil))) none (.nd (.nd (.nd (.nd .nil (some fn272) .nil) none .nil) (some fn80) (.nd (.nd .nil none .nil) none .nil)) (some fn48) (.nd (.nd (.nd .nil none .nil) (some fn176) .nil) none (.nd .nil (some fn240) .nil)))) none (.nd (.nd (.nd (.nd (.nd .nil (some fn264) .nil) none .nil) (some fn72) (.nd (.nd .nil none .nil) none .nil)) (some fn40) (.nd (.nd (.nd .nil (some fn296) .nil) (some fn168) .nil) (some fn104) (.nd .nil (some fn232) .nil))) none (.nd (.nd (.nd (.nd .nil (some fn280) .nil) none .nil) (some fn88) (.nd .nil none .nil)) none (.nd (.nd (.nd .nil (some fn312) .nil) (some fn184) .nil) none (.nd .nil (some fn248) .nil))))) none (.nd (.nd (.nd (.nd (.nd (.nd .nil (some fn260) .nil) (some fn132) .nil) (some fn68) (.nd (.nd .nil (some fn324) .nil) (some fn196) .nil)) (some fn36) (.nd (.nd (.nd .nil (some fn292) .nil) none .nil) none (.nd .nil none .nil))) (some fn20) (.nd (.nd (.nd (.nd .nil (some fn276) .nil) none .nil) (some fn84) (.nd (.nd .nil none .nil) none .nil)) none (.nd (.nd (.nd .nil none .nil) (some fn180) .nil) none (.nd .nil (some fn244) .nil)))) none (.nd (.nd (.nd (.nd (.nd .nil (some fn268) .nil) none .nil) none (.nd (.nd .nil none .nil) none .nil)) none (.nd (.nd (.nd .nil none .nil) none .nil) (some fn108) (.nd .nil none .nil))) none (.nd (.nd (.nd (.nd .nil (some fn284) .nil) (some fn156) .nil) (some fn92) (.nd .nil (some fn220) .nil)) none (.nd (.nd (.nd .nil (some fn316) .nil) (some fn188) .nil) (some fn124) (.nd .nil none .nil)))))) none (.nd (.nd (.nd (.nd (.nd (.nd (.nd .nil (some fn258) .nil) (some fn130) .nil) none (.nd (.nd .nil none .nil) (some fn194) .nil)) none (.nd (.nd (.nd .nil (some fn290) .nil) (some fn162) .nil) none (.nd .nil none .nil))) none (.nd (.nd (.nd (.nd .nil (some fn274) .nil) none .nil) (some fn82) (.nd (.nd .nil none .nil) none .nil)) (some fn50) (.nd (.nd (.nd .nil none .nil) (some fn178) .nil) none (.nd .nil (some fn242) .nil)))) none (.nd (.nd (.nd (.nd (.nd .nil (some fn266) .nil) none .nil) (some fn74) (.nd (.nd .nil none .nil) none .nil)) none (.nd (.nd (.nd .nil (some fn298) .nil) none .nil) none (.nd .nil (some fn234) .nil))) none (.nd (.nd (.nd (.nd .nil (some fn282) .nil) (some fn154) .nil) none (.nd .nil none .nil)) none (.nd (.nd (.nd .nil (some fn314) .nil) (some fn186) .nil) (some fn122) (.nd .nil (some fn250) .nil))))) none (.nd (.nd (.nd (.nd (.nd (.nd .nil (some fn262) .nil) none .nil) (some fn70) (.nd (.nd .nil none .nil) (some fn198) .nil)) none (.nd (.nd (.nd .nil (some fn294) .nil) none .nil) (some fn102) (.nd .nil (some fn230) .nil))) none (.nd (.nd (.nd (.nd .nil (some fn278) .nil) none .nil) none (.nd .nil none .nil)) none (.nd (.nd (.nd .nil (some fn310) .nil) (some fn182) .nil) (some fn118) (.nd .nil (some fn246) .nil)))) none (.nd (.nd (.nd (.nd (.nd .nil (some fn270) .nil) none .nil) none (.nd (.nd .nil none .nil) none .nil)) none (.nd (.nd (.nd .nil none .nil) (some fn174) .nil) none (.nd .nil (some fn238) .nil))) (some fn30) (.nd (.nd (.nd (.nd .nil (some fn286) .nil) (some fn158) .nil) none (.nd .nil (some fn222) .nil)) none (.nd (.nd (.nd .nil none .nil) (some fn190) .nil) (some fn126) (.nd .nil (some fn254) .nil))))))))
noncomputable def T9 : Pos → Option FFn := fun p => PT.get tree p
def PTlist {α : Type} : PT α → (Pos → Pos) → List (Pos × α)
  | .nil, _ => []
  | .nd l v r, f => (match v with | some x => [(f .h, x)] | none => []) ++ (PTlist l (fun p => f (.o p)) ++ PTlist r (fun p => f (.i p)))
theorem PTlist_mem {α : Type} : ∀ (t : PT α) (f : Pos → Pos) (p : Pos) (x : α), PT.get t p = some x → (f p, x) ∈ PTlist t f
  | .nil, _, _, _, h => by rw [PT.get_nil] at h; cases h
  | .nd l v r, f, .h, x, h => by
    rw [PT.get_nd_h] at h; subst h
    exact List.mem_append_left _ (List.mem_singleton.2 rfl)
  | .nd l v r, f, .o p, x, h => List.mem_append_right _ (List.mem_append_left _ (PTlist_mem l (fun p => f (.o p)) p x h))
  | .nd l v r, f, .i p, x, h => List.mem_append_right _ (List.mem_append_right _ (PTlist_mem r (fun p => f (.i p)) p x h))
def Fit (x : Pos × FFn) : Prop := ∃ n fn, n < 1000000 ∧ x.1 = pos n ∧ compFn P9 Z9 n = some fn ∧ x.2 = fastFn fn
theorem fit_of {k : Nat} {f : FFn} {p : Pos} (hk : k < 1000000) (hp : p = pos k) (h : (compFn P9 Z9 k).map fastFn = some f) : Fit (p, f) := by
  cases q : compFn P9 Z9 k with
  | none => rw [q] at h; cases h
  | some fn => rw [q] at h; cases h; exact ⟨k, fn, hk, hp, q, rfl⟩
noncomputable def tabList : List (Pos × FFn) := [(q63, fn63), (q127, fn127), (q255, fn255), (q191, fn191), (q159, fn159), (q287, fn287), (q223, fn223), (q271, fn271), (q175, fn175), (q239, fn239), (q71, fn71), (q263, fn263), (q103, fn103), (q167, fn167), (q295, fn295), (q231, fn231), (q279, fn279), (q119, fn119), (q183, fn183), (q311, fn311), (q247, fn247), (q131, fn131), (q259, fn259), (q195, fn195), (q323, fn323), (q291, fn291), (q83, fn83), (q275, fn275), (q179, fn179), (q243, fn243), (q267, fn267), (q299, fn299), (q91, fn91), (q155, fn155), (q283, fn283), (q219, fn219), (q123, fn123), (q187, fn187), (q315, fn315), (q17, fn17), (q129, fn129), (q257, fn257), (q193, fn193), (q321, fn321), (q97, fn97), (q161, fn161), (q289, fn289), (q49, fn49), (q81, fn81), (q273, fn273), (q177, fn177), (q241, fn241), (q25, fn25), (q41, fn41), (q73, fn73), (q265, fn265), (q297, fn297), (q233, fn233), (q153, fn153), (q281, fn281), (q185, fn185), (q313, fn313), (q249, fn249), (q69, fn69), (q133, fn133), (q197, fn197), (q293, fn293), (q277, fn277), (q181, fn181), (q309, fn309), (q245, fn245), (q29, fn29), (q269, fn269), (q237, fn237), (q61, fn61), (q157, fn157), (q285, fn285), (q221, fn221), (q125, fn125), (q189, fn189), (q253, fn253), (q64, fn64), (q128, fn128), (q192, fn192), (q320, fn320), (q96, fn96), (q160, fn160), (q288, fn288), (q224, fn224), (q48, fn48), (q80, fn80), (q272, fn272), (q176, fn176), (q240, fn240), (q40, fn40), (q72, fn72), (q264, fn264), (q104, fn104), (q168, fn168), (q296, fn296), (q232, fn232), (q88, fn88), (q280, fn280), (q184, fn184), (q312, fn312), (q248, fn248), (q20, fn20), (q36, fn36), (q68, fn68), (q132, fn132), (q260, fn260), (q196, fn196), (q324, fn324), (q292, fn292), (q84, fn84), (q276, fn276), (q180, fn180), (q244, fn244), (q268, fn268), (q108, fn108), (q92, fn92), (q156, fn156), (q284, fn284), (q220, fn220), (q124, fn124), (q188, fn188), (q316, fn316), (q130, fn130), (q258, fn258), (q194, fn194), (q162, fn162), (q290, fn290), (q50, fn50), (q82, fn82), (q274, fn274), (q178, fn178), (q242, fn242), (q74, fn74), (q266, fn266), (q298, fn298), (q234, fn234), (q154, fn154), (q282, fn282), (q122, fn122), (q186, fn186), (q314, fn314), (q250, fn250), (q70, fn70), (q262, fn262), (q198, fn198), (q102, fn102), (q294, fn294), (q230, fn230), (q278, fn278), (q118, fn118), (q182, fn182), (q310, fn310), (q246, fn246), (q30, fn30), (q270, fn270), (q174, fn174), (q238, fn238), (q158, fn158), (q286, fn286), (q222, fn222), (q126, fn126), (q190, fn190), (q254, fn254)]
theorem tabList_eq : PTlist tree id = tabList := by kernel_rfl
theorem all_cons {α : Type} {p : α → Prop} {a : α} {l : List α} (h : p a) (t : ∀ x ∈ l, p x) : ∀ x ∈ a :: l, p x := fun x hx => (List.mem_cons.1 hx).elim (fun e => e ▸ h) (t x)
theorem all_nil {α : Type} {p : α → Prop} : ∀ x ∈ ([] : List α), p x := fun x hx => by cases hx
theorem tabList_fit : ∀ x ∈ tabList, Fit x :=
 all_cons (fit_of (by decide) (by kernel_rfl) ft63) <|
 all_cons (fit_of (by decide) (by kernel_rfl) ft127) <|
 all_cons (fit_of (by decide) (by kernel_rfl) ft255) <|
 all_cons (fit_of (by decide) (by kernel_rfl) ft191) <|
 all_cons (fit_of (by decide) (by kernel_rfl) ft159) <|
 all_cons (fit_of (by decide) (by kernel_rfl) ft287) <|
 all_cons (fit_of (by decide) (by kernel_rfl) ft223) <|
 all_cons (fit_of (by decide) (by kernel_rfl) ft271) <|
 all_cons (fit_of (by decide) (by kernel_rfl) ft175) <|
 all_cons (fit_of (by decide) (by kernel_rfl) ft239) <|
 all_cons (fit_of (by decide) (by kernel_rfl) ft71) <|
 all_cons (fit_of (by decide) (by kernel_rfl) ft263) <|
 all_cons (fit_of (by decide) (by kernel_rfl) ft103) <|
 all_cons (fit_of (by decide) (by kernel_rfl) ft167) <|
 all_cons (fit_of (by decide) (by kernel_rfl) ft295) <|
 all_cons (fit_of (by decide) (by kernel_rfl) ft231) <|
 all_cons (fit_of (by decide) (by kernel_rfl) ft279) <|
 all_cons (fit_of (by decide) (by kernel_rfl) ft119) <|
 all_cons (fit_of (by decide) (by kernel_rfl) ft183) <|
 all_cons (fit_of (by decide) (by kernel_rfl) ft311) <|
 all_cons (fit_of (by decide) (by kernel_rfl) ft247) <|
 all_cons (fit_of (by decide) (by kernel_rfl) ft131) <|
 all_cons (fit_of (by decide) (by kernel_rfl) ft259) <|
 all_cons (fit_of (by decide) (by kernel_rfl) ft195) <|
 all_cons (fit_of (by decide) (by kernel_rfl) ft323) <|
 all_cons (fit_of (by decide) (by kernel_rfl) ft291) <|
 all_cons (fit_of (by decide) (by kernel_rfl) ft83) <|
 all_cons (fit_of (by decide) (by kernel_rfl) ft275) <|
 all_cons (fit_of (by decide) (by kernel_rfl) ft179) <|
 all_cons (fit_of (by decide) (by kernel_rfl) ft243) <|
 all_cons (fit_of (by decide) (by kernel_rfl) ft267) <|
 all_cons (fit_of (by decide) (by kernel_rfl) ft299) <|
 all_cons (fit_of (by decide) (by kernel_rfl) ft91) <|
 all_cons (fit_of (by decide) (by kernel_rfl) ft155) <|
 all_cons (fit_of (by decide) (by kernel_rfl) ft283) <|
 all_cons (fit_of (by decide) (by kernel_rfl) ft219) <|
 all_cons (fit_of (by decide) (by kernel_rfl) ft123) <|
 all_cons (fit_of (by decide) (by kernel_rfl) ft187) <|
 all_cons (fit_of (by decide) (by kernel_rfl) ft315) <|
 all_cons (fit_of (by decide) (by kernel_rfl) ft17) <|
 all_cons (fit_of (by decide) (by kernel_rfl) ft129) <|
 all_cons (fit_of (by decide) (by kernel_rfl) ft257) <|
 all_cons (fit_of (by decide) (by kernel_rfl) ft193) <|
 all_cons (fit_of (by decide) (by kernel_rfl) ft321) <|
 all_cons (fit_of (by decide) (by kernel_rfl) ft97) <|
 all_cons (fit_of (by decide) (by kernel_rfl) ft161) <|
 all_cons (fit_of (by decide) (by kernel_rfl) ft289) <|
 all_cons (fit_of (by decide) (by kernel_rfl) ft49) <|
 all_cons (fit_of (by decide) (by kernel_rfl) ft81) <|
 all_cons (fit_of (by decide) (by kernel_rfl) ft273) <|
 all_cons (fit_of (by decide) (by kernel_rfl) ft177) <|
 all_cons (fit_of (by decide) (by kernel_rfl) ft241) <|
 all_cons (fit_of (by decide) (by kernel_rfl) ft25) <|
 all_cons (fit_of (by decide) (by kernel_rfl) ft41) <|
 all_cons (fit_of (by decide) (by kernel_rfl) ft73) <|
 all_cons (fit_of (by decide) (by kernel_rfl) ft265) <|
 all_cons (fit_of (by decide) (by kernel_rfl) ft297) <|
 all_cons (fit_of (by decide) (by kernel_rfl) ft233) <|
 all_cons (fit_of (by decide) (by kernel_rfl) ft153) <|
 all_cons (fit_of (by decide) (by kernel_rfl) ft281) <|
 all_cons (fit_of (by decide) (by kernel_rfl) ft185) <|
 all_cons (fit_of (by decide) (by kernel_rfl) ft313) <|
 all_cons (fit_of (by decide) (by kernel_rfl) ft249) <|
 all_cons (fit_of (by decide) (by kernel_rfl) ft69) <|
 all_cons (fit_of (by decide) (by kernel_rfl) ft133) <|
 all_cons (fit_of (by decide) (by kernel_rfl) ft197) <|
 all_cons (fit_of (by decide) (by kernel_rfl) ft293) <|
 all_cons (fit_of (by decide) (by kernel_rfl) ft277) <|
 all_cons (fit_of (by decide) (by kernel_rfl) ft181) <|
 all_cons (fit_of (by decide) (by kernel_rfl) ft309) <|
 all_cons (fit_of (by decide) (by kernel_rfl) ft245) <|
 all_cons (fit_of (by decide) (by kernel_rfl) ft29) <|
 all_cons (fit_of (by decide) (by kernel_rfl) ft269) <|
 all_cons (fit_of (by decide) (by kernel_rfl) ft237) <|
 all_cons (fit_of (by decide) (by kernel_rfl) ft61) <|
 all_cons (fit_of (by decide) (by kernel_rfl) ft157) <|
 all_cons (fit_of (by decide) (by kernel_rfl) ft285) <|
 all_cons (fit_of (by decide) (by kernel_rfl) ft221) <|
 all_cons (fit_of (by decide) (by kernel_rfl) ft125) <|
 all_cons (fit_of (by decide) (by kernel_rfl) ft189) <|
 all_cons (fit_of (by decide) (by kernel_rfl) ft253) <|
 all_cons (fit_of (by decide) (by kernel_rfl) ft64) <|
 all_cons (fit_of (by decide) (by kernel_rfl) ft128) <|
 all_cons (fit_of (by decide) (by kernel_rfl) ft192) <|
 all_cons (fit_of (by decide) (by kernel_rfl) ft320) <|
 all_cons (fit_of (by decide) (by kernel_rfl) ft96) <|
 all_cons (fit_of (by decide) (by kernel_rfl) ft160) <|
 all_cons (fit_of (by decide) (by kernel_rfl) ft288) <|
 all_cons (fit_of (by decide) (by kernel_rfl) ft224) <|
 all_cons (fit_of (by decide) (by kernel_rfl) ft48) <|
 all_cons (fit_of (by decide) (by kernel_rfl) ft80) <|
 all_cons (fit_of (by decide) (by kernel_rfl) ft272) <|
 all_cons (fit_of (by decide) (by kernel_rfl) ft176) <|
 all_cons (fit_of (by decide) (by kernel_rfl) ft240) <|
 all_cons (fit_of (by decide) (by kernel_rfl) ft40) <|
 all_cons (fit_of (by decide) (by kernel_rfl) ft72) <|
 all_cons (fit_of (by decide) (by kernel_rfl) ft264) <|
 all_cons (fit_of (by decide) (by kernel_rfl) ft104) <|
 all_cons (fit_of (by decide) (by kernel_rfl) ft168) <|
 all_cons (fit_of (by decide) (by kernel_rfl) ft296) <|
 all_cons (fit_of (by decide) (by kernel_rfl) ft232) <|
 all_cons (fit_of (by decide) (by kernel_rfl) ft88) <|
 all_cons (fit_of (by decide) (by kernel_rfl) ft280) <|
 all_cons (fit_of (by decide) (by kernel_rfl) ft184) <|
 all_cons (fit_of (by decide) (by kernel_rfl) ft312) <|
 all_cons (fit_of (by decide) (by kernel_rfl) ft248) <|
 all_cons (fit_of (by decide) (by kernel_rfl) ft20) <|
 all_cons (fit_of (by decide) (by kernel_rfl) ft36) <|
 all_cons (fit_of (by decide) (by kernel_rfl) ft68) <|
 all_cons (fit_of (by decide) (by kernel_rfl) ft132) <|
 all_cons (fit_of (by decide) (by kernel_rfl) ft260) <|
 all_cons (fit_of (by decide) (by kernel_rfl) ft196) <|
 all_cons (fit_of (by decide) (by kernel_rfl) ft324) <|
 all_cons (fit_of (by decide) (by kernel_rfl) ft292) <|
 all_cons (fit_of (by decide) (by kernel_rfl) ft84) <|
 all_cons (fit_of (by decide) (by kernel_rfl) ft276) <|
 all_cons (fit_of (by decide) (by kernel_rfl) ft180) <|
 all_cons (fit_of (by decide) (by kernel_rfl) ft244) <|
 all_cons (fit_of (by decide) (by kernel_rfl) ft268) <|
 all_cons (fit_of (by decide) (by kernel_rfl) ft108) <|
 all_cons (fit_of (by decide) (by kernel_rfl) ft92) <|
 all_cons (fit_of (by decide) (by kernel_rfl) ft156) <|
 all_cons (fit_of (by decide) (by kernel_rfl) ft284) <|
 all_cons (fit_of (by decide) (by kernel_rfl) ft220) <|
 all_cons (fit_of (by decide) (by kernel_rfl) ft124) <|
 all_cons (fit_of (by decide) (by kernel_rfl) ft188) <|
 all_cons (fit_of (by decide) (by kernel_rfl) ft316) <|
 all_cons (fit_of (by decide) (by kernel_rfl) ft130) <|
 all_cons (fit_of (by decide) (by kernel_rfl) ft258) <|
 all_cons (fit_of (by decide) (by kernel_rfl) ft194) <|
 all_cons (fit_of (by decide) (by kernel_rfl) ft162) <|
 all_cons (fit_of (by decide) (by kernel_rfl) ft290) <|
 all_cons (fit_of (by decide) (by kernel_rfl) ft50) <|
 all_cons (fit_of (by decide) (by kernel_rfl) ft82) <|
 all_cons (fit_of (by decide) (by kernel_rfl) ft274) <|
 all_cons (fit_of (by decide) (by kernel_rfl) ft178) <|
 all_cons (fit_of (by decide) (by kernel_rfl) ft242) <|
 all_cons (fit_of (by decide) (by kernel_rfl) ft74) <|
 all_cons (fit_of (by decide) (by kernel_rfl) ft266) <|
 all_cons (fit_of (by decide) (by kernel_rfl) ft298) <|
 all_cons (fit_of (by decide) (by kernel_rfl) ft234) <|
 all_cons (fit_of (by decide) (by kernel_rfl) ft154) <|
 all_cons (fit_of (by decide) (by kernel_rfl) ft282) <|
 all_cons (fit_of (by decide) (by kernel_rfl) ft122) <|
 all_cons (fit_of (by decide) (by kernel_rfl) ft186) <|
 all_cons (fit_of (by decide) (by kernel_rfl) ft314) <|
 all_cons (fit_of (by decide) (by kernel_rfl) ft250) <|
 all_cons (fit_of (by decide) (by kernel_rfl) ft70) <|
 all_cons (fit_of (by decide) (by kernel_rfl) ft262) <|
 all_cons (fit_of (by decide) (by kernel_rfl) ft198) <|
 all_cons (fit_of (by decide) (by kernel_rfl) ft102) <|
 all_cons (fit_of (by decide) (by kernel_rfl) ft294) <|
 all_cons (fit_of (by decide) (by kernel_rfl) ft230) <|
 all_cons (fit_of (by decide) (by kernel_rfl) ft278) <|
 all_cons (fit_of (by decide) (by kernel_rfl) ft118) <|
 all_cons (fit_of (by decide) (by kernel_rfl) ft182) <|
 all_cons (fit_of (by decide) (by kernel_rfl) ft310) <|
 all_cons (fit_of (by decide) (by kernel_rfl) ft246) <|
 all_cons (fit_of (by decide) (by kernel_rfl) ft30) <|
 all_cons (fit_of (by decide) (by kernel_rfl) ft270) <|
 all_cons (fit_of (by decide) (by kernel_rfl) ft174) <|
 all_cons (fit_of (by decide) (by kernel_rfl) ft238) <|
 all_cons (fit_of (by decide) (by kernel_rfl) ft158) <|
 all_cons (fit_of (by decide) (by kernel_rfl) ft286) <|
 all_cons (fit_of (by decide) (by kernel_rfl) ft222) <|
 all_cons (fit_of (by decide) (by kernel_rfl) ft126) <|
 all_cons (fit_of (by decide) (by kernel_rfl) ft190) <|
 all_cons (fit_of (by decide) (by kernel_rfl) ft254) <|
 all_nil
theorem fits9 : Fits P9 Z9 T9 := by
  intro p f h
  have h := PTlist_mem tree id p f h
  rw [tabList_eq] at h
  exact tabList_fit _ h
end Go.Proofs.YtkfdbldnghcngaaGreat.Fast
/- A run of the closures. -/
namespace Go.Proofs.YtkfdbldnghcngaaGreat.Fast
open Go.Fg
noncomputable def goF (k : Nat) (args : List IV) : Option IV := match callFast T9 100000000 100000 (pos k) args Hp.empty with
  | some (r, h) => (match frz h r with | some (u, _) => some u | none => none)
  | none => none
def power : IV := (.sli [[(.s [109, 97, 105, 110]), (.i .i64 2), (.sli [[(.i .u8 1), (.s []), (.i .i64 0), (.sli [[(.i .i64 (-1)), (.i .i64 0)]])], [(.i .u8 12), (.s []), (.i .i64 0), (.sli [[(.i .i64 (-1)), (.i .i64 1)], [(.i .i64 0), (.i .i64 0)]])], [(.i .u8 1), (.s []), (.i .i64 1), (.sli [[(.i .i64 (-1)), (.i .i64 0)]])], [(.i .u8 9), (.s [109, 97, 105, 110, 46, 48]), (.i .i64 0), (.sli [[(.i .i64 (-1)), (.i .i64 0)], [(.i .i64 1), (.i .i64 0)], [(.i .i64 2), (.i .i64 0)]])]]), (.sli []), (.sli [[(.i .i64 3), (.i .i64 0)]])], [(.s [109, 97, 105, 110, 46, 48]), (.i .i64 3), (.sli [[(.i .u8 1), (.s []), (.i .i64 0), (.sli [[(.i .i64 (-1)), (.i .i64 0)]])], [(.i .u8 4), (.s [108, 116]), (.i .i64 0), (.sli [[(.i .i64 0), (.i .i64 0)], [(.i .i64 (-1)), (.i .i64 1)]])], [(.i .u8 5), (.s []), (.i .i64 0), (.sli [[(.i .i64 1), (.i .i64 0)], [(.i .i64 (-1)), (.i .i64 0)]])], [(.i .u8 5), (.s []), (.i .i64 0), (.sli [[(.i .i64 1), (.i .i64 0)], [(.i .i64 (-1)), (.i .i64 1)]])], [(.i .u8 5), (.s []), (.i .i64 0), (.sli [[(.i .i64 1), (.i .i64 0)], [(.i .i64 (-1)), (.i .i64 2)]])], [(.i .u8 1), (.s []), (.i .i64 1), (.sli [[(.i .i64 2), (.i .i64 0)]])], [(.i .u8 4), (.s [115, 117, 98]), (.i .i64 0), (.sli [[(.i .i64 3), (.i .i64 0)], [(.i .i64 5), (.i .i64 0)]])], [(.i .u8 4), (.s [97, 100, 100]), (.i .i64 0), (.sli [[(.i .i64 4), (.i .i64 0)], [(.i .i64 4), (.i .i64 0)]])]]), (.sli [[(.i .i64 2), (.i .i64 0)], [(.i .i64 6), (.i .i64 0)], [(.i .i64 7), (.i .i64 0)]]), (.sli [[(.i .i64 4), (.i .i64 1)]])]])
def inp (b : Bool) (l : List Int) : IV := .agg [.sli [[.sli (l.map fun x => [.i .i64 x])]], .sli [[.b b]]]
theorem go_tells {k : Nat} {args : List IV} {u : IV} (hk : k < 1000000) (h : goF k args = some u) : Tells P9 k args u := by
  unfold goF at h
  split at h
  · rename_i r h2 e
    split at h
    · rename_i u' h3 e3
      cases h
      exact fast_tells (Z := Z9) (by kernel_rfl) fits9 hk e e3
    · cases h
  · cases h
end Go.Proofs.YtkfdbldnghcngaaGreat.Fast
