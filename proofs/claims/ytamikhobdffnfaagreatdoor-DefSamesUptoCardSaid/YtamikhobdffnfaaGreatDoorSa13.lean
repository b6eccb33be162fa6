/-
  Part of the proof of DefSames.
-/
import Derived.Test.YtamikhobdffnfaaGreatDoorSa12
import Derived.JoinedCond
set_option linter.all false
set_option maxRecDepth 1000000
set_option maxHeartbeats 40000000
section
namespace Go.Proofs.YtamikhobdffnfaaGreatDoor
open Go Go.AV
theorem sames_k0:(Rows.defSamesUptoRow.wf (OpenSpec.ofChange Rows.defSamesSpec))=true:=by kernel_rfl
theorem sames_k1:(laidOutB Tryz.prog)=true:=by kernel_rfl
theorem sames_k2:(mapsRowed Tryz.prog)=true:=by kernel_rfl
theorem sames_k3:(Tryz.f6.params.all (Tryz.prog.readableRec ·))=true:=by kernel_rfl
theorem sames_k4:(namedTie Tryz.prog Rows.defSamesUptoRow.named Rows.defSamesSpec.vars)=true:=by kernel_rfl
theorem sames_k5:(Rows.defSamesUptoRow.stops == [])=true:=by kernel_rfl
theorem sames_k6:(Tryz.prog.stops == [])=true:=by kernel_rfl
theorem sames_k7:(Rows.defSamesUptoRow.knobs == [])=true:=by kernel_rfl
theorem sames_k8:(Tryz.prog.stopKnobs == [])=true:=by kernel_rfl
theorem sames_k9:(Rows.defSamesUptoRow.inPlace == Tryz.prog.inPlace 6)=true:=by kernel_rfl
theorem sames_k10:(Rows.defSamesUptoRow.unfollowed == Tryz.prog.unfollowed 6)=true:=by kernel_rfl
theorem sames_k11:(Rows.defSamesUptoRow.recurses == Tryz.prog.recurses 6)=true:=by kernel_rfl
theorem sames_k12:(Rows.defSamesUptoRow.named == Tryz.prog.varsNamed 6)=true:=by kernel_rfl
theorem sames_k13:(Rows.defSamesUptoRow.maps == (Tryz.f6.params.toList++Rows.defSamesSpec.plain.varTypes Tryz.prog).any (Tryz.prog.mapsRec ·))=true:=by kernel_rfl
theorem sames_k14:(Rows.defSamesUptoRow.ifaces == (Tryz.f6.params.toList++Rows.defSamesSpec.plain.varTypes Tryz.prog).any (Tryz.prog.ifacesRec ·))=true:=by kernel_rfl
theorem sames_k15:(Rows.defSamesUptoRow.mapsOut == Tryz.prog.mapsAmong Tryz.f6.resultTypes.toList)=true:=by kernel_rfl
theorem sames_k16:(Rows.defSamesUptoRow.loops == (Tryz.f6.params.toList++Rows.defSamesSpec.plain.varTypes Tryz.prog).any (Tryz.prog.loopsFrom ·))=true:=by kernel_rfl
theorem sames_k17:(Rows.defSamesUptoRow.wideKeys == (Tryz.f6.params.toList++Rows.defSamesSpec.plain.varTypes Tryz.prog++Tryz.f6.resultTypes.toList).any (Tryz.prog.wideKeysFrom ·))=true:=by kernel_rfl
theorem sames_k18:(Rows.defSamesSpec.vars.all (Tryz.prog.varReadable ·))=true:=by kernel_rfl
theorem sames_k19:(Tryz.f6.resultTypes.all (fun t=>Tryz.prog.readableRec t&&decide (t<Tryz.prog.types.size)))=true:=by kernel_rfl
theorem sames_k20:(Rows.defSamesUptoRow.ifacesOut == Tryz.f6.resultTypes.toList.any (Tryz.prog.ifacesRec ·))=true:=by kernel_rfl
theorem sames_k21:(Rows.defSamesUptoRow.loopsOut == Tryz.f6.resultTypes.toList.any (Tryz.prog.loopsFrom ·))=true:=by kernel_rfl
theorem sames_k22:(Rows.defSamesUptoRow.plainKeys == Tryz.prog.plainKeys)=true:=by kernel_rfl
theorem sames_k23:(Rows.defSamesUptoRow.shortTexts.isNone)=true:=by kernel_rfl
theorem sames_k24:(Tryz.prog.stopsHeard)=true:=by kernel_rfl
theorem sames_k25:(Tryz.prog.mayEnter)=true:=by kernel_rfl
theorem sames_k26:(Rows.defSamesUptoRow.lifted == Tryz.prog.liftsFinal)=true:=by kernel_rfl
theorem sames_k27:(Tryz.prog.make == some Rows.defSamesUptoRow.make)=true:=by kernel_rfl
theorem sames_k28:(Rows.defSamesUptoRow.kinds == (if Rows.defSamesUptoRow.domain.isEmpty then [] else Tryz.f6.params.toList.map fun t=>match Tryz.prog.underlying t with|some (.int k)=>some k|_=>none))=true:=by kernel_rfl
theorem sames_k29:(Rows.defSamesUptoRow.pinned == Rows.defSamesUptoRow.pinnedBy)=true:=by kernel_rfl
theorem sames_k30:(Rows.defSamesUptoRow.veiled == (Tryz.f6.params.toList++Rows.defSamesSpec.plain.varTypes Tryz.prog++Tryz.f6.resultTypes.toList).any (Tryz.prog.veiledRec ·))=true:=by kernel_rfl
theorem sames_k31:(Rows.defSamesUptoRow.veiledFits Tryz.prog Tryz.f6.params.toList (Tryz.f6.params.toList++Rows.defSamesSpec.plain.varTypes Tryz.prog++Tryz.f6.resultTypes.toList))=true:=by kernel_rfl
theorem sames_closed:joinedFacts Tryz.prog 6 Tryz.f6 Rows.defSamesSpec Rows.defSamesUptoRow=true:=by
 unfold joinedFacts;simp only[gD5];exact ⟨⟨⟨⟨⟨⟨⟨⟨⟨⟨⟨⟨⟨⟨⟨⟨⟨⟨⟨⟨⟨⟨⟨⟨⟨⟨⟨⟨⟨⟨⟨sames_k0,sames_k1⟩,sames_k2⟩,sames_k3⟩,sames_k4⟩,sames_k5⟩,sames_k6⟩,sames_k7⟩,sames_k8⟩,sames_k9⟩,sames_k10⟩,sames_k11⟩,sames_k12⟩,sames_k13⟩,sames_k14⟩,sames_k15⟩,sames_k16⟩,sames_k17⟩,sames_k18⟩,sames_k19⟩,sames_k20⟩,sames_k21⟩,sames_k22⟩,sames_k23⟩,sames_k24⟩,sames_k25⟩,sames_k26⟩,sames_k27⟩,sames_k28⟩,sames_k29⟩,sames_k30⟩,sames_k31⟩
end Go.Proofs.YtamikhobdffnfaaGreatDoor
end
