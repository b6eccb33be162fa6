/-
  Of DefStrings.
-/
import Derived.Test.YtamikhobdffnfaaGreatDoorSt11
import Derived.JoinedCond
set_option linter.all false
set_option maxRecDepth 99999
set_option maxHeartbeats 0
section
open Go.Proofs.Tryz
namespace Go.Proofs.YtamikhobdffnfaaGreatDoor
open Go Go.AV Go.Proofs.Tryz
theorem strs_k0:(Rows.defStringsRow.wf (OpenSpec.ofChange Rows.defStringsSpec))=true:=by kernel_rfl
theorem strs_k1:(laidOutB prog)=true:=by kernel_rfl
theorem strs_k2:(mapsRowed prog)=true:=by kernel_rfl
theorem strs_k3:(f12.params.all (prog.readableRec ·))=true:=by kernel_rfl
theorem strs_k4:(namedTie prog Rows.defStringsRow.named Rows.defStringsSpec.vars)=true:=by kernel_rfl
theorem strs_k5:(Rows.defStringsRow.stops == [])=true:=by kernel_rfl
theorem strs_k6:(prog.stops == [])=true:=by kernel_rfl
theorem strs_k7:(Rows.defStringsRow.knobs == [])=true:=by kernel_rfl
theorem strs_k8:(prog.stopKnobs == [])=true:=by kernel_rfl
theorem strs_k9:(Rows.defStringsRow.inPlace == prog.inPlace 12)=true:=by kernel_rfl
theorem strs_k10:(Rows.defStringsRow.unfollowed == prog.unfollowed 12)=true:=by kernel_rfl
theorem strs_k11:(Rows.defStringsRow.recurses == prog.recurses 12)=true:=by kernel_rfl
theorem strs_k12:(Rows.defStringsRow.named == prog.varsNamed 12)=true:=by kernel_rfl
theorem strs_k13:(Rows.defStringsRow.maps == (f12.params.toList++Rows.defStringsSpec.plain.varTypes prog).any (prog.mapsRec ·))=true:=by kernel_rfl
theorem strs_k14:(Rows.defStringsRow.ifaces == (f12.params.toList++Rows.defStringsSpec.plain.varTypes prog).any (prog.ifacesRec ·))=true:=by kernel_rfl
theorem strs_k15:(Rows.defStringsRow.mapsOut == prog.mapsAmong f12.resultTypes.toList)=true:=by kernel_rfl
theorem strs_k16:(Rows.defStringsRow.loops == (f12.params.toList++Rows.defStringsSpec.plain.varTypes prog).any (prog.loopsFrom ·))=true:=by kernel_rfl
theorem strs_k17:(Rows.defStringsRow.wideKeys == (f12.params.toList++Rows.defStringsSpec.plain.varTypes prog++f12.resultTypes.toList).any (prog.wideKeysFrom ·))=true:=by kernel_rfl
theorem strs_k18:(Rows.defStringsSpec.vars.all (prog.varReadable ·))=true:=by kernel_rfl
theorem strs_k19:(f12.resultTypes.all (fun t=>prog.readableRec t&&decide (t<prog.types.size)))=true:=by kernel_rfl
theorem strs_k20:(Rows.defStringsRow.ifacesOut == f12.resultTypes.toList.any (prog.ifacesRec ·))=true:=by kernel_rfl
theorem strs_k21:(Rows.defStringsRow.loopsOut == f12.resultTypes.toList.any (prog.loopsFrom ·))=true:=by kernel_rfl
theorem strs_k22:(Rows.defStringsRow.plainKeys == prog.plainKeys)=true:=by kernel_rfl
theorem strs_k23:(Rows.defStringsRow.shortTexts.isNone)=true:=by kernel_rfl
theorem strs_k24:(prog.stopsHeard)=true:=by kernel_rfl
theorem strs_k25:(prog.mayEnter)=true:=by kernel_rfl
theorem strs_k26:(Rows.defStringsRow.lifted == prog.liftsFinal)=true:=by kernel_rfl
theorem strs_k27:(prog.make == some Rows.defStringsRow.make)=true:=by kernel_rfl
theorem strs_k28:(Rows.defStringsRow.kinds == (if Rows.defStringsRow.domain.isEmpty then [] else f12.params.toList.map fun t=>match prog.underlying t with|some (.int k)=>some k|_=>none))=true:=by kernel_rfl
theorem strs_k29:(Rows.defStringsRow.pinned == Rows.defStringsRow.pinnedBy)=true:=by kernel_rfl
theorem strs_k30:(Rows.defStringsRow.veiled == (f12.params.toList++Rows.defStringsSpec.plain.varTypes prog++f12.resultTypes.toList).any (prog.veiledRec ·))=true:=by kernel_rfl
theorem strs_k31:(Rows.defStringsRow.veiledFits prog f12.params.toList (f12.params.toList++Rows.defStringsSpec.plain.varTypes prog++f12.resultTypes.toList))=true:=by kernel_rfl
theorem strs_closed:joinedFacts prog 12 f12 Rows.defStringsSpec Rows.defStringsRow=true:=by
 unfold joinedFacts;simp only[aZ];exact ⟨⟨⟨⟨⟨⟨⟨⟨⟨⟨⟨⟨⟨⟨⟨⟨⟨⟨⟨⟨⟨⟨⟨⟨⟨⟨⟨⟨⟨⟨⟨strs_k0,strs_k1⟩,strs_k2⟩,strs_k3⟩,strs_k4⟩,strs_k5⟩,strs_k6⟩,strs_k7⟩,strs_k8⟩,strs_k9⟩,strs_k10⟩,strs_k11⟩,strs_k12⟩,strs_k13⟩,strs_k14⟩,strs_k15⟩,strs_k16⟩,strs_k17⟩,strs_k18⟩,strs_k19⟩,strs_k20⟩,strs_k21⟩,strs_k22⟩,strs_k23⟩,strs_k24⟩,strs_k25⟩,strs_k26⟩,strs_k27⟩,strs_k28⟩,strs_k29⟩,strs_k30⟩,strs_k31⟩
end Go.Proofs.YtamikhobdffnfaaGreatDoor
end
