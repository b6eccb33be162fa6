/-
  Of CheckLess.
-/
import Derived.Test.YtliopiiflebkdaaGreatDoorLe04
set_option linter.all false
set_option maxRecDepth 99999
set_option maxHeartbeats 0
section
open Go.Proofs.Tryz
namespace Go.Proofs.YtliopiiflebkdaaGreatDoor
open Go Go.AV Go.Proofs.Tryz
theorem less_main:Tryz.pinned.checked.prog.mainIs=some (Rows.checkLessUptoCard.stood.harness.1,Rows.checkLessUptoCard.stood.harness.2.toList):=by kernel_rfl
theorem less_goes:false=Rows.checkLessUptoRow.goesBy Tryz.pinned.checked.prog:=by kernel_rfl
theorem less_wf:Rows.checkLessUptoRow.wfByText (Rows.OpenSpec.upto Rows.checkLessSpec)=true:=by kernel_rfl
theorem less_looks:true=Tryz.pinned.checked.prog.looks []:=by kernel_rfl
theorem less_named:prog.funcNamed Rows.checkLessUptoRow.func=some 3:=by kernel_rfl
end Go.Proofs.YtliopiiflebkdaaGreatDoor
end
