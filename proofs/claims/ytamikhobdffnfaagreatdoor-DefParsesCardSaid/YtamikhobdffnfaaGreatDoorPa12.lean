/-
  Of DefParses.
-/
import Derived.Test.YtamikhobdffnfaaGreatDoorPa11
import Derived.JoinedCond
set_option linter.all false
set_option maxRecDepth 99999
set_option maxHeartbeats 0
section
open Go.Proofs.Tryz
namespace Go.Proofs.YtamikhobdffnfaaGreatDoor
open Go Go.AV Go.Proofs.Tryz
theorem parses_k0:(Rows.defParsesRow.wf (OpenSpec.ofChange Rows.defParsesSpec))=true:=by kernel_rfl
theorem parses_k1:(laidOutB prog)=true:=by kernel_rfl
theorem parses_k2:(mapsRowed prog)=true:=by kernel_rfl
theorem parses_k3:(Tryz.f3.params.all (prog.readableRec ·))=true:=by kernel_rfl
theorem parses_k4:(namedTie prog Rows.defParsesRow.named Rows.defParsesSpec.vars)=true:=by kernel_rfl
theorem parses_k5:(Rows.defParsesRow.stops == [])=true:=by kernel_rfl
theorem parses_k6:(prog.stops == [])=true:=by kernel_rfl
theorem parses_k7:(Rows.defParsesRow.knobs == [])=true:=by kernel_rfl
theorem parses_k8:(prog.stopKnobs == [])=true:=by kernel_rfl
theorem parses_k9:(Rows.defParsesRow.inPlace == prog.inPlace 3)=true:=by kernel_rfl
theorem parses_k10:(Rows.defParsesRow.unfollowed == prog.unfollowed 3)=true:=by kernel_rfl
theorem parses_k11:(Rows.defParsesRow.recurses == prog.recurses 3)=true:=by kernel_rfl
theorem parses_k12:(Rows.defParsesRow.named == prog.varsNamed 3)=true:=by kernel_rfl
theorem parses_k13:(Rows.defParsesRow.maps == (Tryz.f3.params.toList++Rows.defParsesSpec.plain.varTypes prog).any (prog.mapsRec ·))=true:=by kernel_rfl
theorem parses_k14:(Rows.defParsesRow.ifaces == (Tryz.f3.params.toList++Rows.defParsesSpec.plain.varTypes prog).any (prog.ifacesRec ·))=true:=by kernel_rfl
theorem parses_k15:(Rows.defParsesRow.mapsOut == prog.mapsAmong Tryz.f3.resultTypes.toList)=true:=by kernel_rfl
theorem parses_k16:(Rows.defParsesRow.loops == (Tryz.f3.params.toList++Rows.defParsesSpec.plain.varTypes prog).any (prog.loopsFrom ·))=true:=by kernel_rfl
theorem parses_k17:(Rows.defParsesRow.wideKeys == (Tryz.f3.params.toList++Rows.defParsesSpec.plain.varTypes prog++Tryz.f3.resultTypes.toList).any (prog.wideKeysFrom ·))=true:=by kernel_rfl
theorem parses_k18:(Rows.defParsesSpec.vars.all (prog.varReadable ·))=true:=by kernel_rfl
theorem parses_k19:(Tryz.f3.resultTypes.all (fun t=>prog.readableRec t&&decide (t<prog.types.size)))=true:=by kernel_rfl
theorem parses_k20:(Rows.defParsesRow.ifacesOut == Tryz.f3.resultTypes.toList.any (prog.ifacesRec ·))=true:=by kernel_rfl
theorem parses_k21:(Rows.defParsesRow.loopsOut == Tryz.f3.resultTypes.toList.any (prog.loopsFrom ·))=true:=by kernel_rfl
theorem parses_k22:(Rows.defParsesRow.plainKeys == prog.plainKeys)=true:=by kernel_rfl
theorem parses_k23:(Rows.defParsesRow.shortTexts.isNone)=true:=by kernel_rfl
theorem parses_k24:(prog.stopsHeard)=true:=by kernel_rfl
theorem parses_k25:(prog.mayEnter)=true:=by kernel_rfl
theorem parses_k26:(Rows.defParsesRow.lifted == prog.liftsFinal)=true:=by kernel_rfl
theorem parses_k27:(prog.make == some Rows.defParsesRow.make)=true:=by kernel_rfl
theorem parses_k28:(Rows.defParsesRow.kinds == (if Rows.defParsesRow.domain.isEmpty then [] else Tryz.f3.params.toList.map fun t=>match prog.underlying t with|some (.int k)=>some k|_=>none))=true:=by kernel_rfl
theorem parses_k29:(Rows.defParsesRow.pinned == Rows.defParsesRow.pinnedBy)=true:=by kernel_rfl
theorem parses_k30:(Rows.defParsesRow.veiled == (Tryz.f3.params.toList++Rows.defParsesSpec.plain.varTypes prog++Tryz.f3.resultTypes.toList).any (prog.veiledRec ·))=true:=by kernel_rfl
theorem parses_k31:(Rows.defParsesRow.veiledFits prog Tryz.f3.params.toList (Tryz.f3.params.toList++Rows.defParsesSpec.plain.varTypes prog++Tryz.f3.resultTypes.toList))=true:=by kernel_rfl
theorem parses_closed:joinedFacts prog 3 Tryz.f3 Rows.defParsesSpec Rows.defParsesRow=true:=by
 unfold joinedFacts;simp only[bT];exact ⟨⟨⟨⟨⟨⟨⟨⟨⟨⟨⟨⟨⟨⟨⟨⟨⟨⟨⟨⟨⟨⟨⟨⟨⟨⟨⟨⟨⟨⟨⟨parses_k0,parses_k1⟩,parses_k2⟩,parses_k3⟩,parses_k4⟩,parses_k5⟩,parses_k6⟩,parses_k7⟩,parses_k8⟩,parses_k9⟩,parses_k10⟩,parses_k11⟩,parses_k12⟩,parses_k13⟩,parses_k14⟩,parses_k15⟩,parses_k16⟩,parses_k17⟩,parses_k18⟩,parses_k19⟩,parses_k20⟩,parses_k21⟩,parses_k22⟩,parses_k23⟩,parses_k24⟩,parses_k25⟩,parses_k26⟩,parses_k27⟩,parses_k28⟩,parses_k29⟩,parses_k30⟩,parses_k31⟩
end Go.Proofs.YtamikhobdffnfaaGreatDoor
end
