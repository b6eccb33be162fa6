/-
  Of CheckOrder.
-/
import Derived.Test.YtliopiiflebkdaaGreatDoorOr04
import Derived.JoinedCond
set_option linter.all false
set_option maxRecDepth 99999
set_option maxHeartbeats 0
section
open Go.Proofs.Tryz
namespace Go.Proofs.YtliopiiflebkdaaGreatDoor
open Go Go.AV Go.Proofs.Tryz
theorem order_k0:(Rows.checkOrderUptoRow.wf (OpenSpec.ofChange Rows.checkOrderSpec))=true:=by kernel_rfl
theorem order_k1:(laidOutB prog)=true:=by kernel_rfl
theorem order_k2:(mapsRowed prog)=true:=by kernel_rfl
theorem order_k3:(Tryz.f4.params.all (prog.readableRec ·))=true:=by kernel_rfl
theorem order_k4:(namedTie prog Rows.checkOrderUptoRow.named Rows.checkOrderSpec.vars)=true:=by kernel_rfl
theorem order_k5:(Rows.checkOrderUptoRow.stops == [])=true:=by kernel_rfl
theorem order_k6:(prog.stops == [])=true:=by kernel_rfl
theorem order_k7:(Rows.checkOrderUptoRow.knobs == [])=true:=by kernel_rfl
theorem order_k8:(prog.stopKnobs == [])=true:=by kernel_rfl
theorem order_k9:(Rows.checkOrderUptoRow.inPlace == prog.inPlace 4)=true:=by kernel_rfl
theorem order_k10:(Rows.checkOrderUptoRow.unfollowed == prog.unfollowed 4)=true:=by kernel_rfl
theorem order_k11:(Rows.checkOrderUptoRow.recurses == prog.recurses 4)=true:=by kernel_rfl
theorem order_k12:(Rows.checkOrderUptoRow.named == prog.varsNamed 4)=true:=by kernel_rfl
theorem order_k13:(Rows.checkOrderUptoRow.maps == (Tryz.f4.params.toList++Rows.checkOrderSpec.plain.varTypes prog).any (prog.mapsRec ·))=true:=by kernel_rfl
theorem order_k14:(Rows.checkOrderUptoRow.ifaces == (Tryz.f4.params.toList++Rows.checkOrderSpec.plain.varTypes prog).any (prog.ifacesRec ·))=true:=by kernel_rfl
theorem order_k15:(Rows.checkOrderUptoRow.mapsOut == prog.mapsAmong Tryz.f4.resultTypes.toList)=true:=by kernel_rfl
theorem order_k16:(Rows.checkOrderUptoRow.loops == (Tryz.f4.params.toList++Rows.checkOrderSpec.plain.varTypes prog).any (prog.loopsFrom ·))=true:=by kernel_rfl
theorem order_k17:(Rows.checkOrderUptoRow.wideKeys == (Tryz.f4.params.toList++Rows.checkOrderSpec.plain.varTypes prog++Tryz.f4.resultTypes.toList).any (prog.wideKeysFrom ·))=true:=by kernel_rfl
theorem order_k18:(Rows.checkOrderSpec.vars.all (prog.varReadable ·))=true:=by kernel_rfl
theorem order_k19:(Tryz.f4.resultTypes.all (λt=>prog.readableRec t&&decide (t<prog.types.size)))=true:=by kernel_rfl
theorem order_k20:(Rows.checkOrderUptoRow.ifacesOut == Tryz.f4.resultTypes.toList.any (prog.ifacesRec ·))=true:=by kernel_rfl
theorem order_k21:(Rows.checkOrderUptoRow.loopsOut == Tryz.f4.resultTypes.toList.any (prog.loopsFrom ·))=true:=by kernel_rfl
theorem order_k22:(Rows.checkOrderUptoRow.plainKeys == prog.plainKeys)=true:=by kernel_rfl
theorem order_k23:(Rows.checkOrderUptoRow.shortTexts.isNone)=true:=by kernel_rfl
theorem order_k24:(prog.stopsHeard)=true:=by kernel_rfl
theorem order_k25:(prog.mayEnter)=true:=by kernel_rfl
theorem order_k26:(Rows.checkOrderUptoRow.lifted == prog.liftsFinal)=true:=by kernel_rfl
theorem order_k27:(prog.make == some Rows.checkOrderUptoRow.make)=true:=by kernel_rfl
theorem order_k28:(Rows.checkOrderUptoRow.kinds == (if Rows.checkOrderUptoRow.domain.isEmpty then [] else Tryz.f4.params.toList.map λt=>match prog.underlying t with|some (.int k)=>some k|_=>none))=true:=by kernel_rfl
theorem order_k29:(Rows.checkOrderUptoRow.pinned == Rows.checkOrderUptoRow.pinnedBy)=true:=by kernel_rfl
theorem order_k30:(Rows.checkOrderUptoRow.veiled == (Tryz.f4.params.toList++Rows.checkOrderSpec.plain.varTypes prog++Tryz.f4.resultTypes.toList).any (prog.veiledRec ·))=true:=by kernel_rfl
theorem order_k31:(Rows.checkOrderUptoRow.veiledFits prog Tryz.f4.params.toList (Tryz.f4.params.toList++Rows.checkOrderSpec.plain.varTypes prog++Tryz.f4.resultTypes.toList))=true:=by kernel_rfl
theorem order_closed:joinedFacts prog 4 Tryz.f4 Rows.checkOrderSpec Rows.checkOrderUptoRow=true:=by
 unfold joinedFacts;simp only[dI];exact⟨⟨⟨⟨⟨⟨⟨⟨⟨⟨⟨⟨⟨⟨⟨⟨⟨⟨⟨⟨⟨⟨⟨⟨⟨⟨⟨⟨⟨⟨⟨order_k0,order_k1⟩,order_k2⟩,order_k3⟩,order_k4⟩,order_k5⟩,order_k6⟩,order_k7⟩,order_k8⟩,order_k9⟩,order_k10⟩,order_k11⟩,order_k12⟩,order_k13⟩,order_k14⟩,order_k15⟩,order_k16⟩,order_k17⟩,order_k18⟩,order_k19⟩,order_k20⟩,order_k21⟩,order_k22⟩,order_k23⟩,order_k24⟩,order_k25⟩,order_k26⟩,order_k27⟩,order_k28⟩,order_k29⟩,order_k30⟩,order_k31⟩
end Go.Proofs.YtliopiiflebkdaaGreatDoor
end
