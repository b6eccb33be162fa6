/-
  Of CheckTells.
-/
import Derived.Test.YthaljojbclndaaaGreatDoorCt14
import Derived.JoinedCond
set_option linter.all false
set_option maxRecDepth 99999
set_option maxHeartbeats 0
section
open Go.Proofs.Tryz
namespace Go.Proofs.YthaljojbclndaaaGreatDoor
open Go Go.AV Go.Proofs.Tryz
theorem tells_k0:(Rows.checkTellsUptoRow.wf (OpenSpec.ofChange Rows.checkTellsSpec))=true:=by kernel_rfl
theorem tells_k1:(laidOutB prog)=true:=by kernel_rfl
theorem tells_k2:(mapsRowed prog)=true:=by kernel_rfl
theorem tells_k3:(Tryz.f4.params.all (prog.readableRec ·))=true:=by kernel_rfl
theorem tells_k4:(namedTie prog Rows.checkTellsUptoRow.named Rows.checkTellsSpec.vars)=true:=by kernel_rfl
theorem tells_k5:(Rows.checkTellsUptoRow.stops == [])=true:=by kernel_rfl
theorem tells_k6:(prog.stops == [])=true:=by kernel_rfl
theorem tells_k7:(Rows.checkTellsUptoRow.knobs == [])=true:=by kernel_rfl
theorem tells_k8:(prog.stopKnobs == [])=true:=by kernel_rfl
theorem tells_k9:(Rows.checkTellsUptoRow.inPlace == prog.inPlace 4)=true:=by kernel_rfl
theorem tells_k10:(Rows.checkTellsUptoRow.unfollowed == prog.unfollowed 4)=true:=by kernel_rfl
theorem tells_k11:(Rows.checkTellsUptoRow.recurses == prog.recurses 4)=true:=by kernel_rfl
theorem tells_k12:(Rows.checkTellsUptoRow.named == prog.varsNamed 4)=true:=by kernel_rfl
theorem tells_k13:(Rows.checkTellsUptoRow.maps == (Tryz.f4.params.toList++Rows.checkTellsSpec.plain.varTypes prog).any (prog.mapsRec ·))=true:=by kernel_rfl
theorem tells_k14:(Rows.checkTellsUptoRow.ifaces == (Tryz.f4.params.toList++Rows.checkTellsSpec.plain.varTypes prog).any (prog.ifacesRec ·))=true:=by kernel_rfl
theorem tells_k15:(Rows.checkTellsUptoRow.mapsOut == prog.mapsAmong Tryz.f4.resultTypes.toList)=true:=by kernel_rfl
theorem tells_k16:(Rows.checkTellsUptoRow.loops == (Tryz.f4.params.toList++Rows.checkTellsSpec.plain.varTypes prog).any (prog.loopsFrom ·))=true:=by kernel_rfl
theorem tells_k17:(Rows.checkTellsUptoRow.wideKeys == (Tryz.f4.params.toList++Rows.checkTellsSpec.plain.varTypes prog++Tryz.f4.resultTypes.toList).any (prog.wideKeysFrom ·))=true:=by kernel_rfl
theorem tells_k18:(Rows.checkTellsSpec.vars.all (prog.varReadable ·))=true:=by kernel_rfl
theorem tells_k19:(Tryz.f4.resultTypes.all (λt=>prog.readableRec t&&decide (t<prog.types.size)))=true:=by kernel_rfl
theorem tells_k20:(Rows.checkTellsUptoRow.ifacesOut == Tryz.f4.resultTypes.toList.any (prog.ifacesRec ·))=true:=by kernel_rfl
theorem tells_k21:(Rows.checkTellsUptoRow.loopsOut == Tryz.f4.resultTypes.toList.any (prog.loopsFrom ·))=true:=by kernel_rfl
theorem tells_k22:(Rows.checkTellsUptoRow.plainKeys == prog.plainKeys)=true:=by kernel_rfl
theorem tells_k23:(Rows.checkTellsUptoRow.shortTexts.isNone)=true:=by kernel_rfl
theorem tells_k24:(prog.stopsHeard)=true:=by kernel_rfl
theorem tells_k25:(prog.mayEnter)=true:=by kernel_rfl
theorem tells_k26:(Rows.checkTellsUptoRow.lifted == prog.liftsFinal)=true:=by kernel_rfl
theorem tells_k27:(prog.make == some Rows.checkTellsUptoRow.make)=true:=by kernel_rfl
theorem tells_k28:(Rows.checkTellsUptoRow.kinds == (if Rows.checkTellsUptoRow.domain.isEmpty then [] else Tryz.f4.params.toList.map λt=>match prog.underlying t with|some (.int k)=>some k|_=>none))=true:=by kernel_rfl
theorem tells_k29:(Rows.checkTellsUptoRow.pinned == Rows.checkTellsUptoRow.pinnedBy)=true:=by kernel_rfl
theorem tells_k30:(Rows.checkTellsUptoRow.veiled == (Tryz.f4.params.toList++Rows.checkTellsSpec.plain.varTypes prog++Tryz.f4.resultTypes.toList).any (prog.veiledRec ·))=true:=by kernel_rfl
theorem tells_k31:(Rows.checkTellsUptoRow.veiledFits prog Tryz.f4.params.toList (Tryz.f4.params.toList++Rows.checkTellsSpec.plain.varTypes prog++Tryz.f4.resultTypes.toList))=true:=by kernel_rfl
theorem tells_closed:joinedFacts prog 4 Tryz.f4 Rows.checkTellsSpec Rows.checkTellsUptoRow=true:=by
 unfold joinedFacts;simp only[aY];exact⟨⟨⟨⟨⟨⟨⟨⟨⟨⟨⟨⟨⟨⟨⟨⟨⟨⟨⟨⟨⟨⟨⟨⟨⟨⟨⟨⟨⟨⟨⟨tells_k0,tells_k1⟩,tells_k2⟩,tells_k3⟩,tells_k4⟩,tells_k5⟩,tells_k6⟩,tells_k7⟩,tells_k8⟩,tells_k9⟩,tells_k10⟩,tells_k11⟩,tells_k12⟩,tells_k13⟩,tells_k14⟩,tells_k15⟩,tells_k16⟩,tells_k17⟩,tells_k18⟩,tells_k19⟩,tells_k20⟩,tells_k21⟩,tells_k22⟩,tells_k23⟩,tells_k24⟩,tells_k25⟩,tells_k26⟩,tells_k27⟩,tells_k28⟩,tells_k29⟩,tells_k30⟩,tells_k31⟩
end Go.Proofs.YthaljojbclndaaaGreatDoor
end
