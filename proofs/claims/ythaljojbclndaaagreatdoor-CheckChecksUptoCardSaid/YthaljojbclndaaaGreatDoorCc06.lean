/-
  Of CheckChecks.
-/
import Derived.Test.YthaljojbclndaaaGreatDoorCc04
set_option linter.all false
set_option maxRecDepth 99999
set_option maxHeartbeats 0
section
open Go.Proofs.Tryz
namespace Go.Proofs.YthaljojbclndaaaGreatDoor
open Go Go.AV Go.Proofs.Tryz
theorem checks_main:Tryz.pinned.checked.prog.mainIs=some (Rows.checkChecksUptoCard.stood.harness.1,Rows.checkChecksUptoCard.stood.harness.2.toList):=by kernel_rfl
theorem checks_goes:false=Rows.checkChecksUptoRow.goesBy Tryz.pinned.checked.prog:=by kernel_rfl
theorem checks_wf:Rows.checkChecksUptoRow.wfByText (Rows.OpenSpec.upto Rows.checkChecksSpec)=true:=by kernel_rfl
theorem checks_looks:true=Tryz.pinned.checked.prog.looks []:=by kernel_rfl
theorem checks_named:prog.funcNamed Rows.checkChecksUptoRow.func=some 3:=by kernel_rfl
end Go.Proofs.YthaljojbclndaaaGreatDoor
end
