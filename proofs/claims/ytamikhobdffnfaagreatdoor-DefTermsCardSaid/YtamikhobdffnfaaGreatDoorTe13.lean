/-
  Part of the proof of DefTerms.
-/
import Derived.Test.YtamikhobdffnfaaGreatDoorTe12
import Derived.JoinedCond
set_option linter.all false
set_option maxRecDepth 1000000
set_option maxHeartbeats 40000000
section
namespace Go.Proofs.YtamikhobdffnfaaGreatDoor
open Go Go.AV
theorem terms_k0:(Rows.defTermsRow.wf (OpenSpec.ofChange Rows.defTermsSpec))=true:=by kernel_rfl
theorem terms_k1:(laidOutB Tryz.prog)=true:=by kernel_rfl
theorem terms_k2:(mapsRowed Tryz.prog)=true:=by kernel_rfl
theorem terms_k3:(Tryz.f4.params.all (Tryz.prog.readableRec ·))=true:=by kernel_rfl
theorem terms_k4:(namedTie Tryz.prog Rows.defTermsRow.named Rows.defTermsSpec.vars)=true:=by kernel_rfl
theorem terms_k5:(Rows.defTermsRow.stops == [])=true:=by kernel_rfl
theorem terms_k6:(Tryz.prog.stops == [])=true:=by kernel_rfl
theorem terms_k7:(Rows.defTermsRow.knobs == [])=true:=by kernel_rfl
theorem terms_k8:(Tryz.prog.stopKnobs == [])=true:=by kernel_rfl
theorem terms_k9:(Rows.defTermsRow.inPlace == Tryz.prog.inPlace 4)=true:=by kernel_rfl
theorem terms_k10:(Rows.defTermsRow.unfollowed == Tryz.prog.unfollowed 4)=true:=by kernel_rfl
theorem terms_k11:(Rows.defTermsRow.recurses == Tryz.prog.recurses 4)=true:=by kernel_rfl
theorem terms_k12:(Rows.defTermsRow.named == Tryz.prog.varsNamed 4)=true:=by kernel_rfl
theorem terms_k13:(Rows.defTermsRow.maps == (Tryz.f4.params.toList++Rows.defTermsSpec.plain.varTypes Tryz.prog).any (Tryz.prog.mapsRec ·))=true:=by kernel_rfl
theorem terms_k14:(Rows.defTermsRow.ifaces == (Tryz.f4.params.toList++Rows.defTermsSpec.plain.varTypes Tryz.prog).any (Tryz.prog.ifacesRec ·))=true:=by kernel_rfl
theorem terms_k15:(Rows.defTermsRow.mapsOut == Tryz.prog.mapsAmong Tryz.f4.resultTypes.toList)=true:=by kernel_rfl
theorem terms_k16:(Rows.defTermsRow.loops == (Tryz.f4.params.toList++Rows.defTermsSpec.plain.varTypes Tryz.prog).any (Tryz.prog.loopsFrom ·))=true:=by kernel_rfl
theorem terms_k17:(Rows.defTermsRow.wideKeys == (Tryz.f4.params.toList++Rows.defTermsSpec.plain.varTypes Tryz.prog++Tryz.f4.resultTypes.toList).any (Tryz.prog.wideKeysFrom ·))=true:=by kernel_rfl
theorem terms_k18:(Rows.defTermsSpec.vars.all (Tryz.prog.varReadable ·))=true:=by kernel_rfl
theorem terms_k19:(Tryz.f4.resultTypes.all (fun t=>Tryz.prog.readableRec t&&decide (t<Tryz.prog.types.size)))=true:=by kernel_rfl
theorem terms_k20:(Rows.defTermsRow.ifacesOut == Tryz.f4.resultTypes.toList.any (Tryz.prog.ifacesRec ·))=true:=by kernel_rfl
theorem terms_k21:(Rows.defTermsRow.loopsOut == Tryz.f4.resultTypes.toList.any (Tryz.prog.loopsFrom ·))=true:=by kernel_rfl
theorem terms_k22:(Rows.defTermsRow.plainKeys == Tryz.prog.plainKeys)=true:=by kernel_rfl
theorem terms_k23:(Rows.defTermsRow.shortTexts.isNone)=true:=by kernel_rfl
theorem terms_k24:(Tryz.prog.stopsHeard)=true:=by kernel_rfl
theorem terms_k25:(Tryz.prog.mayEnter)=true:=by kernel_rfl
theorem terms_k26:(Rows.defTermsRow.lifted == Tryz.prog.liftsFinal)=true:=by kernel_rfl
theorem terms_k27:(Tryz.prog.make == some Rows.defTermsRow.make)=true:=by kernel_rfl
theorem terms_k28:(Rows.defTermsRow.kinds == (if Rows.defTermsRow.domain.isEmpty then [] else Tryz.f4.params.toList.map fun t=>match Tryz.prog.underlying t with|some (.int k)=>some k|_=>none))=true:=by kernel_rfl
theorem terms_k29:(Rows.defTermsRow.pinned == Rows.defTermsRow.pinnedBy)=true:=by kernel_rfl
theorem terms_k30:(Rows.defTermsRow.veiled == (Tryz.f4.params.toList++Rows.defTermsSpec.plain.varTypes Tryz.prog++Tryz.f4.resultTypes.toList).any (Tryz.prog.veiledRec ·))=true:=by kernel_rfl
theorem terms_k31:(Rows.defTermsRow.veiledFits Tryz.prog Tryz.f4.params.toList (Tryz.f4.params.toList++Rows.defTermsSpec.plain.varTypes Tryz.prog++Tryz.f4.resultTypes.toList))=true:=by kernel_rfl
theorem terms_closed:joinedFacts Tryz.prog 4 Tryz.f4 Rows.defTermsSpec Rows.defTermsRow=true:=by
 unfold joinedFacts;simp only[gD5];exact ⟨⟨⟨⟨⟨⟨⟨⟨⟨⟨⟨⟨⟨⟨⟨⟨⟨⟨⟨⟨⟨⟨⟨⟨⟨⟨⟨⟨⟨⟨⟨terms_k0,terms_k1⟩,terms_k2⟩,terms_k3⟩,terms_k4⟩,terms_k5⟩,terms_k6⟩,terms_k7⟩,terms_k8⟩,terms_k9⟩,terms_k10⟩,terms_k11⟩,terms_k12⟩,terms_k13⟩,terms_k14⟩,terms_k15⟩,terms_k16⟩,terms_k17⟩,terms_k18⟩,terms_k19⟩,terms_k20⟩,terms_k21⟩,terms_k22⟩,terms_k23⟩,terms_k24⟩,terms_k25⟩,terms_k26⟩,terms_k27⟩,terms_k28⟩,terms_k29⟩,terms_k30⟩,terms_k31⟩
end Go.Proofs.YtamikhobdffnfaaGreatDoor
end
