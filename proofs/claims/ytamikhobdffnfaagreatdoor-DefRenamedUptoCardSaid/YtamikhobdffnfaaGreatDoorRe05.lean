/-
  Of DefRenamed.
-/
import Derived.Test.YtamikhobdffnfaaGreatDoorRe04
import Derived.JoinedCond
set_option linter.all false
set_option maxRecDepth 99999
set_option maxHeartbeats 0
section
open Go.Proofs.Tryz
namespace Go.Proofs.YtamikhobdffnfaaGreatDoor
open Go Go.AV Go.Proofs.Tryz
theorem renamed_k0:(Rows.defRenamedUptoRow.wf (OpenSpec.ofChange Rows.defRenamedSpec))=true:=by kernel_rfl
theorem renamed_k1:(laidOutB prog)=true:=by kernel_rfl
theorem renamed_k2:(mapsRowed prog)=true:=by kernel_rfl
theorem renamed_k3:(f10.params.all (prog.readableRec ·))=true:=by kernel_rfl
theorem renamed_k4:(namedTie prog Rows.defRenamedUptoRow.named Rows.defRenamedSpec.vars)=true:=by kernel_rfl
theorem renamed_k5:(Rows.defRenamedUptoRow.stops == [])=true:=by kernel_rfl
theorem renamed_k6:(prog.stops == [])=true:=by kernel_rfl
theorem renamed_k7:(Rows.defRenamedUptoRow.knobs == [])=true:=by kernel_rfl
theorem renamed_k8:(prog.stopKnobs == [])=true:=by kernel_rfl
theorem renamed_k9:(Rows.defRenamedUptoRow.inPlace == prog.inPlace 10)=true:=by kernel_rfl
theorem renamed_k10:(Rows.defRenamedUptoRow.unfollowed == prog.unfollowed 10)=true:=by kernel_rfl
theorem renamed_k11:(Rows.defRenamedUptoRow.recurses == prog.recurses 10)=true:=by kernel_rfl
theorem renamed_k12:(Rows.defRenamedUptoRow.named == prog.varsNamed 10)=true:=by kernel_rfl
theorem renamed_k13:(Rows.defRenamedUptoRow.maps == (f10.params.toList++Rows.defRenamedSpec.plain.varTypes prog).any (prog.mapsRec ·))=true:=by kernel_rfl
theorem renamed_k14:(Rows.defRenamedUptoRow.ifaces == (f10.params.toList++Rows.defRenamedSpec.plain.varTypes prog).any (prog.ifacesRec ·))=true:=by kernel_rfl
theorem renamed_k15:(Rows.defRenamedUptoRow.mapsOut == prog.mapsAmong f10.resultTypes.toList)=true:=by kernel_rfl
theorem renamed_k16:(Rows.defRenamedUptoRow.loops == (f10.params.toList++Rows.defRenamedSpec.plain.varTypes prog).any (prog.loopsFrom ·))=true:=by kernel_rfl
theorem renamed_k17:(Rows.defRenamedUptoRow.wideKeys == (f10.params.toList++Rows.defRenamedSpec.plain.varTypes prog++f10.resultTypes.toList).any (prog.wideKeysFrom ·))=true:=by kernel_rfl
theorem renamed_k18:(Rows.defRenamedSpec.vars.all (prog.varReadable ·))=true:=by kernel_rfl
theorem renamed_k19:(f10.resultTypes.all (λt=>prog.readableRec t&&decide (t<prog.types.size)))=true:=by kernel_rfl
theorem renamed_k20:(Rows.defRenamedUptoRow.ifacesOut == f10.resultTypes.toList.any (prog.ifacesRec ·))=true:=by kernel_rfl
theorem renamed_k21:(Rows.defRenamedUptoRow.loopsOut == f10.resultTypes.toList.any (prog.loopsFrom ·))=true:=by kernel_rfl
theorem renamed_k22:(Rows.defRenamedUptoRow.plainKeys == prog.plainKeys)=true:=by kernel_rfl
theorem renamed_k23:(Rows.defRenamedUptoRow.shortTexts.isNone)=true:=by kernel_rfl
theorem renamed_k24:(prog.stopsHeard)=true:=by kernel_rfl
theorem renamed_k25:(prog.mayEnter)=true:=by kernel_rfl
theorem renamed_k26:(Rows.defRenamedUptoRow.lifted == prog.liftsFinal)=true:=by kernel_rfl
theorem renamed_k27:(prog.make == some Rows.defRenamedUptoRow.make)=true:=by kernel_rfl
theorem renamed_k28:(Rows.defRenamedUptoRow.kinds == (if Rows.defRenamedUptoRow.domain.isEmpty then [] else f10.params.toList.map λt=>match prog.underlying t with|some (.int k)=>some k|_=>none))=true:=by kernel_rfl
theorem renamed_k29:(Rows.defRenamedUptoRow.pinned == Rows.defRenamedUptoRow.pinnedBy)=true:=by kernel_rfl
theorem renamed_k30:(Rows.defRenamedUptoRow.veiled == (f10.params.toList++Rows.defRenamedSpec.plain.varTypes prog++f10.resultTypes.toList).any (prog.veiledRec ·))=true:=by kernel_rfl
theorem renamed_k31:(Rows.defRenamedUptoRow.veiledFits prog f10.params.toList (f10.params.toList++Rows.defRenamedSpec.plain.varTypes prog++f10.resultTypes.toList))=true:=by kernel_rfl
theorem renamed_closed:joinedFacts prog 10 f10 Rows.defRenamedSpec Rows.defRenamedUptoRow=true:=by
 unfold joinedFacts;simp only[cL];exact⟨⟨⟨⟨⟨⟨⟨⟨⟨⟨⟨⟨⟨⟨⟨⟨⟨⟨⟨⟨⟨⟨⟨⟨⟨⟨⟨⟨⟨⟨⟨renamed_k0,renamed_k1⟩,renamed_k2⟩,renamed_k3⟩,renamed_k4⟩,renamed_k5⟩,renamed_k6⟩,renamed_k7⟩,renamed_k8⟩,renamed_k9⟩,renamed_k10⟩,renamed_k11⟩,renamed_k12⟩,renamed_k13⟩,renamed_k14⟩,renamed_k15⟩,renamed_k16⟩,renamed_k17⟩,renamed_k18⟩,renamed_k19⟩,renamed_k20⟩,renamed_k21⟩,renamed_k22⟩,renamed_k23⟩,renamed_k24⟩,renamed_k25⟩,renamed_k26⟩,renamed_k27⟩,renamed_k28⟩,renamed_k29⟩,renamed_k30⟩,renamed_k31⟩
end Go.Proofs.YtamikhobdffnfaaGreatDoor
end
