/-
  Of DefBack.
-/
import Derived.Test.YtamikhobdffnfaaGreatDoorBa04
import Derived.JoinedCond
set_option linter.all false
set_option maxRecDepth 99999
set_option maxHeartbeats 0
section
open Go.Proofs.Tryz
namespace Go.Proofs.YtamikhobdffnfaaGreatDoor
open Go Go.AV Go.Proofs.Tryz
theorem back_k0:(Rows.defBackUptoRow.wf (OpenSpec.ofChange Rows.defBackSpec))=true:=by kernel_rfl
theorem back_k1:(laidOutB prog)=true:=by kernel_rfl
theorem back_k2:(mapsRowed prog)=true:=by kernel_rfl
theorem back_k3:(f8.params.all (prog.readableRec ·))=true:=by kernel_rfl
theorem back_k4:(namedTie prog Rows.defBackUptoRow.named Rows.defBackSpec.vars)=true:=by kernel_rfl
theorem back_k5:(Rows.defBackUptoRow.stops == [])=true:=by kernel_rfl
theorem back_k6:(prog.stops == [])=true:=by kernel_rfl
theorem back_k7:(Rows.defBackUptoRow.knobs == [])=true:=by kernel_rfl
theorem back_k8:(prog.stopKnobs == [])=true:=by kernel_rfl
theorem back_k9:(Rows.defBackUptoRow.inPlace == prog.inPlace 8)=true:=by kernel_rfl
theorem back_k10:(Rows.defBackUptoRow.unfollowed == prog.unfollowed 8)=true:=by kernel_rfl
theorem back_k11:(Rows.defBackUptoRow.recurses == prog.recurses 8)=true:=by kernel_rfl
theorem back_k12:(Rows.defBackUptoRow.named == prog.varsNamed 8)=true:=by kernel_rfl
theorem back_k13:(Rows.defBackUptoRow.maps == (f8.params.toList++Rows.defBackSpec.plain.varTypes prog).any (prog.mapsRec ·))=true:=by kernel_rfl
theorem back_k14:(Rows.defBackUptoRow.ifaces == (f8.params.toList++Rows.defBackSpec.plain.varTypes prog).any (prog.ifacesRec ·))=true:=by kernel_rfl
theorem back_k15:(Rows.defBackUptoRow.mapsOut == prog.mapsAmong f8.resultTypes.toList)=true:=by kernel_rfl
theorem back_k16:(Rows.defBackUptoRow.loops == (f8.params.toList++Rows.defBackSpec.plain.varTypes prog).any (prog.loopsFrom ·))=true:=by kernel_rfl
theorem back_k17:(Rows.defBackUptoRow.wideKeys == (f8.params.toList++Rows.defBackSpec.plain.varTypes prog++f8.resultTypes.toList).any (prog.wideKeysFrom ·))=true:=by kernel_rfl
theorem back_k18:(Rows.defBackSpec.vars.all (prog.varReadable ·))=true:=by kernel_rfl
theorem back_k19:(f8.resultTypes.all (λt=>prog.readableRec t&&decide (t<prog.types.size)))=true:=by kernel_rfl
theorem back_k20:(Rows.defBackUptoRow.ifacesOut == f8.resultTypes.toList.any (prog.ifacesRec ·))=true:=by kernel_rfl
theorem back_k21:(Rows.defBackUptoRow.loopsOut == f8.resultTypes.toList.any (prog.loopsFrom ·))=true:=by kernel_rfl
theorem back_k22:(Rows.defBackUptoRow.plainKeys == prog.plainKeys)=true:=by kernel_rfl
theorem back_k23:(Rows.defBackUptoRow.shortTexts.isNone)=true:=by kernel_rfl
theorem back_k24:(prog.stopsHeard)=true:=by kernel_rfl
theorem back_k25:(prog.mayEnter)=true:=by kernel_rfl
theorem back_k26:(Rows.defBackUptoRow.lifted == prog.liftsFinal)=true:=by kernel_rfl
theorem back_k27:(prog.make == some Rows.defBackUptoRow.make)=true:=by kernel_rfl
theorem back_k28:(Rows.defBackUptoRow.kinds == (if Rows.defBackUptoRow.domain.isEmpty then [] else f8.params.toList.map λt=>match prog.underlying t with|some (.int k)=>some k|_=>none))=true:=by kernel_rfl
theorem back_k29:(Rows.defBackUptoRow.pinned == Rows.defBackUptoRow.pinnedBy)=true:=by kernel_rfl
theorem back_k30:(Rows.defBackUptoRow.veiled == (f8.params.toList++Rows.defBackSpec.plain.varTypes prog++f8.resultTypes.toList).any (prog.veiledRec ·))=true:=by kernel_rfl
theorem back_k31:(Rows.defBackUptoRow.veiledFits prog f8.params.toList (f8.params.toList++Rows.defBackSpec.plain.varTypes prog++f8.resultTypes.toList))=true:=by kernel_rfl
theorem back_closed:joinedFacts prog 8 f8 Rows.defBackSpec Rows.defBackUptoRow=true:=by
 unfold joinedFacts;simp only[cT];exact⟨⟨⟨⟨⟨⟨⟨⟨⟨⟨⟨⟨⟨⟨⟨⟨⟨⟨⟨⟨⟨⟨⟨⟨⟨⟨⟨⟨⟨⟨⟨back_k0,back_k1⟩,back_k2⟩,back_k3⟩,back_k4⟩,back_k5⟩,back_k6⟩,back_k7⟩,back_k8⟩,back_k9⟩,back_k10⟩,back_k11⟩,back_k12⟩,back_k13⟩,back_k14⟩,back_k15⟩,back_k16⟩,back_k17⟩,back_k18⟩,back_k19⟩,back_k20⟩,back_k21⟩,back_k22⟩,back_k23⟩,back_k24⟩,back_k25⟩,back_k26⟩,back_k27⟩,back_k28⟩,back_k29⟩,back_k30⟩,back_k31⟩
end Go.Proofs.YtamikhobdffnfaaGreatDoor
end
