/-
  Of CheckChecks.
-/
import Derived.Test.YthaljojbclndaaaGreatDoorCc04
import Derived.JoinedCond
set_option linter.all false
set_option maxRecDepth 99999
set_option maxHeartbeats 0
section
open Go.Proofs.Tryz
namespace Go.Proofs.YthaljojbclndaaaGreatDoor
open Go Go.AV Go.Proofs.Tryz
theorem checks_k0:(Rows.checkChecksUptoRow.wf (OpenSpec.ofChange Rows.checkChecksSpec))=true:=by kernel_rfl
theorem checks_k1:(laidOutB prog)=true:=by kernel_rfl
theorem checks_k2:(mapsRowed prog)=true:=by kernel_rfl
theorem checks_k3:(Tryz.f3.params.all (prog.readableRec ·))=true:=by kernel_rfl
theorem checks_k4:(namedTie prog Rows.checkChecksUptoRow.named Rows.checkChecksSpec.vars)=true:=by kernel_rfl
theorem checks_k5:(Rows.checkChecksUptoRow.stops == [])=true:=by kernel_rfl
theorem checks_k6:(prog.stops == [])=true:=by kernel_rfl
theorem checks_k7:(Rows.checkChecksUptoRow.knobs == [])=true:=by kernel_rfl
theorem checks_k8:(prog.stopKnobs == [])=true:=by kernel_rfl
theorem checks_k9:(Rows.checkChecksUptoRow.inPlace == prog.inPlace 3)=true:=by kernel_rfl
theorem checks_k10:(Rows.checkChecksUptoRow.unfollowed == prog.unfollowed 3)=true:=by kernel_rfl
theorem checks_k11:(Rows.checkChecksUptoRow.recurses == prog.recurses 3)=true:=by kernel_rfl
theorem checks_k12:(Rows.checkChecksUptoRow.named == prog.varsNamed 3)=true:=by kernel_rfl
theorem checks_k13:(Rows.checkChecksUptoRow.maps == (Tryz.f3.params.toList++Rows.checkChecksSpec.plain.varTypes prog).any (prog.mapsRec ·))=true:=by kernel_rfl
theorem checks_k14:(Rows.checkChecksUptoRow.ifaces == (Tryz.f3.params.toList++Rows.checkChecksSpec.plain.varTypes prog).any (prog.ifacesRec ·))=true:=by kernel_rfl
theorem checks_k15:(Rows.checkChecksUptoRow.mapsOut == prog.mapsAmong Tryz.f3.resultTypes.toList)=true:=by kernel_rfl
theorem checks_k16:(Rows.checkChecksUptoRow.loops == (Tryz.f3.params.toList++Rows.checkChecksSpec.plain.varTypes prog).any (prog.loopsFrom ·))=true:=by kernel_rfl
theorem checks_k17:(Rows.checkChecksUptoRow.wideKeys == (Tryz.f3.params.toList++Rows.checkChecksSpec.plain.varTypes prog++Tryz.f3.resultTypes.toList).any (prog.wideKeysFrom ·))=true:=by kernel_rfl
theorem checks_k18:(Rows.checkChecksSpec.vars.all (prog.varReadable ·))=true:=by kernel_rfl
theorem checks_k19:(Tryz.f3.resultTypes.all (λt=>prog.readableRec t&&decide (t<prog.types.size)))=true:=by kernel_rfl
theorem checks_k20:(Rows.checkChecksUptoRow.ifacesOut == Tryz.f3.resultTypes.toList.any (prog.ifacesRec ·))=true:=by kernel_rfl
theorem checks_k21:(Rows.checkChecksUptoRow.loopsOut == Tryz.f3.resultTypes.toList.any (prog.loopsFrom ·))=true:=by kernel_rfl
theorem checks_k22:(Rows.checkChecksUptoRow.plainKeys == prog.plainKeys)=true:=by kernel_rfl
theorem checks_k23:(Rows.checkChecksUptoRow.shortTexts.isNone)=true:=by kernel_rfl
theorem checks_k24:(prog.stopsHeard)=true:=by kernel_rfl
theorem checks_k25:(prog.mayEnter)=true:=by kernel_rfl
theorem checks_k26:(Rows.checkChecksUptoRow.lifted == prog.liftsFinal)=true:=by kernel_rfl
theorem checks_k27:(prog.make == some Rows.checkChecksUptoRow.make)=true:=by kernel_rfl
theorem checks_k28:(Rows.checkChecksUptoRow.kinds == (if Rows.checkChecksUptoRow.domain.isEmpty then [] else Tryz.f3.params.toList.map λt=>match prog.underlying t with|some (.int k)=>some k|_=>none))=true:=by kernel_rfl
theorem checks_k29:(Rows.checkChecksUptoRow.pinned == Rows.checkChecksUptoRow.pinnedBy)=true:=by kernel_rfl
theorem checks_k30:(Rows.checkChecksUptoRow.veiled == (Tryz.f3.params.toList++Rows.checkChecksSpec.plain.varTypes prog++Tryz.f3.resultTypes.toList).any (prog.veiledRec ·))=true:=by kernel_rfl
theorem checks_k31:(Rows.checkChecksUptoRow.veiledFits prog Tryz.f3.params.toList (Tryz.f3.params.toList++Rows.checkChecksSpec.plain.varTypes prog++Tryz.f3.resultTypes.toList))=true:=by kernel_rfl
theorem checks_closed:joinedFacts prog 3 Tryz.f3 Rows.checkChecksSpec Rows.checkChecksUptoRow=true:=by
 unfold joinedFacts;simp only[bP];exact⟨⟨⟨⟨⟨⟨⟨⟨⟨⟨⟨⟨⟨⟨⟨⟨⟨⟨⟨⟨⟨⟨⟨⟨⟨⟨⟨⟨⟨⟨⟨checks_k0,checks_k1⟩,checks_k2⟩,checks_k3⟩,checks_k4⟩,checks_k5⟩,checks_k6⟩,checks_k7⟩,checks_k8⟩,checks_k9⟩,checks_k10⟩,checks_k11⟩,checks_k12⟩,checks_k13⟩,checks_k14⟩,checks_k15⟩,checks_k16⟩,checks_k17⟩,checks_k18⟩,checks_k19⟩,checks_k20⟩,checks_k21⟩,checks_k22⟩,checks_k23⟩,checks_k24⟩,checks_k25⟩,checks_k26⟩,checks_k27⟩,checks_k28⟩,checks_k29⟩,checks_k30⟩,checks_k31⟩
end Go.Proofs.YthaljojbclndaaaGreatDoor
end
