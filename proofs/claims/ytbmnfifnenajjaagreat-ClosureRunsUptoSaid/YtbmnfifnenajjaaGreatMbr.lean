/- Part of the proof. -/
import Derived.Test.YtbmnfifnenajjaaGreatMbq
set_option linter.all false
noncomputable section
open Option renaming some->A
open _root_ renaming rfl->B,if_neg->Ad,if_pos->Af
open Bool renaming true->L
open Decidable renaming decide->Ao
open List renaming length->List.l
open Array renaming toList->Array.l,size->Array.z
namespace Go.Proofs.YtbmnfifnenajjaaGreat
def mC:Tryz.f3.params.all (Tryz.prog.readableRec ·)=L:=by kernel_rfl
def mI:(Rows.closureRunsUptoRow.knobs==[])=L:=by kernel_rfl
def mf:(Rows.closureRunsUptoRow.recurses==Tryz.prog.recurses 3)=L:=by kernel_rfl
def mj:(Rows.closureRunsUptoRow.mapsOut==Tryz.prog.mapsAmong Tryz.f3.resultTypes.l)=L:=by kernel_rfl
def mo:Tryz.f3.resultTypes.all (λa=>Tryz.prog.readableRec a&&Ao (a<Tryz.prog.types.z))=L:=by kernel_rfl
def mw:Rows.closureRunsUptoRow.shortTexts.isNone=L:=by kernel_rfl
def mA:(Tryz.prog.make==A Rows.closureRunsUptoRow.make)=L:=by kernel_rfl
def mE:Rows.closureRunsUptoRow.veiledFits Tryz.prog Tryz.f3.params.l (Tryz.f3.params.l++NJ.plain.varTypes Tryz.prog++Tryz.f3.resultTypes.l)=L:=by kernel_rfl
def m3:joinedFacts Tryz.prog 3 Tryz.f3 NJ Rows.closureRunsUptoRow=L:=by unfold joinedFacts;exact Fu (Fu (Fu (Fu (Fu (Fu (Fu (Fu (Fu (Fu (Fu (Fu (Fu (Fu (Fu (Fu (Fu (Fu (Fu (Fu (Fu (Fu (Fu (Fu (Fu (Fu (Fu (Fu (Fu (Fu (Fu mc md) mq) mC) mF) mG) mH) mI) mJ) mK) me) mf) mg) mh) mi) mj) ml) mm) mn) mo) mr) ms) mv) mw) mx) my) mz) mA) (by kernel_rfl)) mB) mD) mE
def us:Tryz.prog.funcNamed Rows.closureRunsUptoRow.func=A 3:=by kernel_rfl
def Aa8:Func.isWrapper Tryz.prog Tryz.f3 Rows.closureRunsUptoRow.wrapper Rows.closureRunsUptoRow.mainSum:=by unfold Func.isWrapper;first|(rw[Af (by decide+kernel)];kernel_rfl)|(rw[Ad (by decide+kernel)];exact⟨B,B⟩)
def rL:Tryz.f3.isInstance Tryz.prog Rows.closureRunsUptoRow.origin Rows.closureRunsUptoRow.targs:=Go.Fg.Afg (by kernel_rfl)
