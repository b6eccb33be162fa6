/-
  Of CheckOrder.
-/
import Derived.Test.YtliopiiflebkdaaGreatDoorOr04
set_option linter.all false
set_option maxRecDepth 99999
set_option maxHeartbeats 0
section
open Go.Proofs.Tryz
namespace Go.Proofs.YtliopiiflebkdaaGreatDoor
open Go Go.AV Go.Proofs.Tryz
theorem order_main:Tryz.pinned.checked.prog.mainIs=some (Rows.checkOrderUptoCard.stood.harness.1,Rows.checkOrderUptoCard.stood.harness.2.toList):=by kernel_rfl
theorem order_goes:false=Rows.checkOrderUptoRow.goesBy Tryz.pinned.checked.prog:=by kernel_rfl
theorem order_wf:Rows.checkOrderUptoRow.wfByText (Rows.OpenSpec.upto Rows.checkOrderSpec)=true:=by kernel_rfl
theorem order_looks:true=Tryz.pinned.checked.prog.looks []:=by kernel_rfl
theorem order_named:prog.funcNamed Rows.checkOrderUptoRow.func=some 4:=by kernel_rfl
end Go.Proofs.YtliopiiflebkdaaGreatDoor
end
