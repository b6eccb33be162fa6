/-
  Part of the proof of DefBlanks.
-/
import Derived.Test.YtamikhobdffnfaaGreatDoorBl12
import Derived.JoinedCond
set_option linter.all false
set_option maxRecDepth 1000000
set_option maxHeartbeats 40000000
section
namespace Go.Proofs.YtamikhobdffnfaaGreatDoor
open Go Go.AV
theorem blanks_k0:(Rows.defBlanksRow.wf (OpenSpec.ofChange Rows.defBlanksSpec))=true:=by kernel_rfl
theorem blanks_k1:(laidOutB Tryz.prog)=true:=by kernel_rfl
theorem blanks_k2:(mapsRowed Tryz.prog)=true:=by kernel_rfl
theorem blanks_k3:(Tryz.f9.params.all (Tryz.prog.readableRec ·))=true:=by kernel_rfl
theorem blanks_k4:(namedTie Tryz.prog Rows.defBlanksRow.named Rows.defBlanksSpec.vars)=true:=by kernel_rfl
theorem blanks_k5:(Rows.defBlanksRow.stops == [])=true:=by kernel_rfl
theorem blanks_k6:(Tryz.prog.stops == [])=true:=by kernel_rfl
theorem blanks_k7:(Rows.defBlanksRow.knobs == [])=true:=by kernel_rfl
theorem blanks_k8:(Tryz.prog.stopKnobs == [])=true:=by kernel_rfl
theorem blanks_k9:(Rows.defBlanksRow.inPlace == Tryz.prog.inPlace 9)=true:=by kernel_rfl
theorem blanks_k10:(Rows.defBlanksRow.unfollowed == Tryz.prog.unfollowed 9)=true:=by kernel_rfl
theorem blanks_k11:(Rows.defBlanksRow.recurses == Tryz.prog.recurses 9)=true:=by kernel_rfl
theorem blanks_k12:(Rows.defBlanksRow.named == Tryz.prog.varsNamed 9)=true:=by kernel_rfl
theorem blanks_k13:(Rows.defBlanksRow.maps == (Tryz.f9.params.toList++Rows.defBlanksSpec.plain.varTypes Tryz.prog).any (Tryz.prog.mapsRec ·))=true:=by kernel_rfl
theorem blanks_k14:(Rows.defBlanksRow.ifaces == (Tryz.f9.params.toList++Rows.defBlanksSpec.plain.varTypes Tryz.prog).any (Tryz.prog.ifacesRec ·))=true:=by kernel_rfl
theorem blanks_k15:(Rows.defBlanksRow.mapsOut == Tryz.prog.mapsAmong Tryz.f9.resultTypes.toList)=true:=by kernel_rfl
theorem blanks_k16:(Rows.defBlanksRow.loops == (Tryz.f9.params.toList++Rows.defBlanksSpec.plain.varTypes Tryz.prog).any (Tryz.prog.loopsFrom ·))=true:=by kernel_rfl
theorem blanks_k17:(Rows.defBlanksRow.wideKeys == (Tryz.f9.params.toList++Rows.defBlanksSpec.plain.varTypes Tryz.prog++Tryz.f9.resultTypes.toList).any (Tryz.prog.wideKeysFrom ·))=true:=by kernel_rfl
theorem blanks_k18:(Rows.defBlanksSpec.vars.all (Tryz.prog.varReadable ·))=true:=by kernel_rfl
theorem blanks_k19:(Tryz.f9.resultTypes.all (fun t=>Tryz.prog.readableRec t&&decide (t<Tryz.prog.types.size)))=true:=by kernel_rfl
theorem blanks_k20:(Rows.defBlanksRow.ifacesOut == Tryz.f9.resultTypes.toList.any (Tryz.prog.ifacesRec ·))=true:=by kernel_rfl
theorem blanks_k21:(Rows.defBlanksRow.loopsOut == Tryz.f9.resultTypes.toList.any (Tryz.prog.loopsFrom ·))=true:=by kernel_rfl
theorem blanks_k22:(Rows.defBlanksRow.plainKeys == Tryz.prog.plainKeys)=true:=by kernel_rfl
theorem blanks_k23:(Rows.defBlanksRow.shortTexts.isNone)=true:=by kernel_rfl
theorem blanks_k24:(Tryz.prog.stopsHeard)=true:=by kernel_rfl
theorem blanks_k25:(Tryz.prog.mayEnter)=true:=by kernel_rfl
theorem blanks_k26:(Rows.defBlanksRow.lifted == Tryz.prog.liftsFinal)=true:=by kernel_rfl
theorem blanks_k27:(Tryz.prog.make == some Rows.defBlanksRow.make)=true:=by kernel_rfl
theorem blanks_k28:(Rows.defBlanksRow.kinds == (if Rows.defBlanksRow.domain.isEmpty then [] else Tryz.f9.params.toList.map fun t=>match Tryz.prog.underlying t with|some (.int k)=>some k|_=>none))=true:=by kernel_rfl
theorem blanks_k29:(Rows.defBlanksRow.pinned == Rows.defBlanksRow.pinnedBy)=true:=by kernel_rfl
theorem blanks_k30:(Rows.defBlanksRow.veiled == (Tryz.f9.params.toList++Rows.defBlanksSpec.plain.varTypes Tryz.prog++Tryz.f9.resultTypes.toList).any (Tryz.prog.veiledRec ·))=true:=by kernel_rfl
theorem blanks_k31:(Rows.defBlanksRow.veiledFits Tryz.prog Tryz.f9.params.toList (Tryz.f9.params.toList++Rows.defBlanksSpec.plain.varTypes Tryz.prog++Tryz.f9.resultTypes.toList))=true:=by kernel_rfl
theorem blanks_closed:joinedFacts Tryz.prog 9 Tryz.f9 Rows.defBlanksSpec Rows.defBlanksRow=true:=by
 unfold joinedFacts;simp only[gD5];exact ⟨⟨⟨⟨⟨⟨⟨⟨⟨⟨⟨⟨⟨⟨⟨⟨⟨⟨⟨⟨⟨⟨⟨⟨⟨⟨⟨⟨⟨⟨⟨blanks_k0,blanks_k1⟩,blanks_k2⟩,blanks_k3⟩,blanks_k4⟩,blanks_k5⟩,blanks_k6⟩,blanks_k7⟩,blanks_k8⟩,blanks_k9⟩,blanks_k10⟩,blanks_k11⟩,blanks_k12⟩,blanks_k13⟩,blanks_k14⟩,blanks_k15⟩,blanks_k16⟩,blanks_k17⟩,blanks_k18⟩,blanks_k19⟩,blanks_k20⟩,blanks_k21⟩,blanks_k22⟩,blanks_k23⟩,blanks_k24⟩,blanks_k25⟩,blanks_k26⟩,blanks_k27⟩,blanks_k28⟩,blanks_k29⟩,blanks_k30⟩,blanks_k31⟩
end Go.Proofs.YtamikhobdffnfaaGreatDoor
end
