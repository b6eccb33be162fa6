/-
  Of CheckTells.
-/
import Derived.Test.YthaljojbclndaaaGreatDoorCt14
set_option linter.all false
set_option maxRecDepth 99999
set_option maxHeartbeats 0
section
open Go.Proofs.Tryz
namespace Go.Proofs.YthaljojbclndaaaGreatDoor
open Go Go.AV Go.Proofs.Tryz
theorem tells_main:Tryz.pinned.checked.prog.mainIs=some (Rows.checkTellsUptoCard.stood.harness.1,Rows.checkTellsUptoCard.stood.harness.2.toList):=by kernel_rfl
theorem tells_goes:false=Rows.checkTellsUptoRow.goesBy Tryz.pinned.checked.prog:=by kernel_rfl
theorem tells_wf:Rows.checkTellsUptoRow.wfByText (Rows.OpenSpec.upto Rows.checkTellsSpec)=true:=by kernel_rfl
theorem tells_looks:true=Tryz.pinned.checked.prog.looks []:=by kernel_rfl
theorem tells_named:prog.funcNamed Rows.checkTellsUptoRow.func=some 4:=by kernel_rfl
end Go.Proofs.YthaljojbclndaaaGreatDoor
end
