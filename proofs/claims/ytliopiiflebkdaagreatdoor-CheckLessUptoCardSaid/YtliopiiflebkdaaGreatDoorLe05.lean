/-
  Of CheckLess.
-/
import Derived.Test.YtliopiiflebkdaaGreatDoorLe04
import Derived.JoinedCond
set_option linter.all false
set_option maxRecDepth 99999
set_option maxHeartbeats 0
section
open Go.Proofs.Tryz
namespace Go.Proofs.YtliopiiflebkdaaGreatDoor
open Go Go.AV Go.Proofs.Tryz
theorem less_k0:(Rows.checkLessUptoRow.wf (OpenSpec.ofChange Rows.checkLessSpec))=true:=by kernel_rfl
theorem less_k1:(laidOutB prog)=true:=by kernel_rfl
theorem less_k2:(mapsRowed prog)=true:=by kernel_rfl
theorem less_k3:(Tryz.f3.params.all (prog.readableRec ·))=true:=by kernel_rfl
theorem less_k4:(namedTie prog Rows.checkLessUptoRow.named Rows.checkLessSpec.vars)=true:=by kernel_rfl
theorem less_k5:(Rows.checkLessUptoRow.stops == [])=true:=by kernel_rfl
theorem less_k6:(prog.stops == [])=true:=by kernel_rfl
theorem less_k7:(Rows.checkLessUptoRow.knobs == [])=true:=by kernel_rfl
theorem less_k8:(prog.stopKnobs == [])=true:=by kernel_rfl
theorem less_k9:(Rows.checkLessUptoRow.inPlace == prog.inPlace 3)=true:=by kernel_rfl
theorem less_k10:(Rows.checkLessUptoRow.unfollowed == prog.unfollowed 3)=true:=by kernel_rfl
theorem less_k11:(Rows.checkLessUptoRow.recurses == prog.recurses 3)=true:=by kernel_rfl
theorem less_k12:(Rows.checkLessUptoRow.named == prog.varsNamed 3)=true:=by kernel_rfl
theorem less_k13:(Rows.checkLessUptoRow.maps == (Tryz.f3.params.toList++Rows.checkLessSpec.plain.varTypes prog).any (prog.mapsRec ·))=true:=by kernel_rfl
theorem less_k14:(Rows.checkLessUptoRow.ifaces == (Tryz.f3.params.toList++Rows.checkLessSpec.plain.varTypes prog).any (prog.ifacesRec ·))=true:=by kernel_rfl
theorem less_k15:(Rows.checkLessUptoRow.mapsOut == prog.mapsAmong Tryz.f3.resultTypes.toList)=true:=by kernel_rfl
theorem less_k16:(Rows.checkLessUptoRow.loops == (Tryz.f3.params.toList++Rows.checkLessSpec.plain.varTypes prog).any (prog.loopsFrom ·))=true:=by kernel_rfl
theorem less_k17:(Rows.checkLessUptoRow.wideKeys == (Tryz.f3.params.toList++Rows.checkLessSpec.plain.varTypes prog++Tryz.f3.resultTypes.toList).any (prog.wideKeysFrom ·))=true:=by kernel_rfl
theorem less_k18:(Rows.checkLessSpec.vars.all (prog.varReadable ·))=true:=by kernel_rfl
theorem less_k19:(Tryz.f3.resultTypes.all (λt=>prog.readableRec t&&decide (t<prog.types.size)))=true:=by kernel_rfl
theorem less_k20:(Rows.checkLessUptoRow.ifacesOut == Tryz.f3.resultTypes.toList.any (prog.ifacesRec ·))=true:=by kernel_rfl
theorem less_k21:(Rows.checkLessUptoRow.loopsOut == Tryz.f3.resultTypes.toList.any (prog.loopsFrom ·))=true:=by kernel_rfl
theorem less_k22:(Rows.checkLessUptoRow.plainKeys == prog.plainKeys)=true:=by kernel_rfl
theorem less_k23:(Rows.checkLessUptoRow.shortTexts.isNone)=true:=by kernel_rfl
theorem less_k24:(prog.stopsHeard)=true:=by kernel_rfl
theorem less_k25:(prog.mayEnter)=true:=by kernel_rfl
theorem less_k26:(Rows.checkLessUptoRow.lifted == prog.liftsFinal)=true:=by kernel_rfl
theorem less_k27:(prog.make == some Rows.checkLessUptoRow.make)=true:=by kernel_rfl
theorem less_k28:(Rows.checkLessUptoRow.kinds == (if Rows.checkLessUptoRow.domain.isEmpty then [] else Tryz.f3.params.toList.map λt=>match prog.underlying t with|some (.int k)=>some k|_=>none))=true:=by kernel_rfl
theorem less_k29:(Rows.checkLessUptoRow.pinned == Rows.checkLessUptoRow.pinnedBy)=true:=by kernel_rfl
theorem less_k30:(Rows.checkLessUptoRow.veiled == (Tryz.f3.params.toList++Rows.checkLessSpec.plain.varTypes prog++Tryz.f3.resultTypes.toList).any (prog.veiledRec ·))=true:=by kernel_rfl
theorem less_k31:(Rows.checkLessUptoRow.veiledFits prog Tryz.f3.params.toList (Tryz.f3.params.toList++Rows.checkLessSpec.plain.varTypes prog++Tryz.f3.resultTypes.toList))=true:=by kernel_rfl
theorem less_closed:joinedFacts prog 3 Tryz.f3 Rows.checkLessSpec Rows.checkLessUptoRow=true:=by
 unfold joinedFacts;simp only[dF];exact⟨⟨⟨⟨⟨⟨⟨⟨⟨⟨⟨⟨⟨⟨⟨⟨⟨⟨⟨⟨⟨⟨⟨⟨⟨⟨⟨⟨⟨⟨⟨less_k0,less_k1⟩,less_k2⟩,less_k3⟩,less_k4⟩,less_k5⟩,less_k6⟩,less_k7⟩,less_k8⟩,less_k9⟩,less_k10⟩,less_k11⟩,less_k12⟩,less_k13⟩,less_k14⟩,less_k15⟩,less_k16⟩,less_k17⟩,less_k18⟩,less_k19⟩,less_k20⟩,less_k21⟩,less_k22⟩,less_k23⟩,less_k24⟩,less_k25⟩,less_k26⟩,less_k27⟩,less_k28⟩,less_k29⟩,less_k30⟩,less_k31⟩
end Go.Proofs.YtliopiiflebkdaaGreatDoor
end
