/-
  Of DefBack.
-/
import Derived.Test.YtamikhobdffnfaaGreatDoorBa04
set_option linter.all false
set_option maxRecDepth 99999
set_option maxHeartbeats 0
section
open Go.Proofs.Tryz
namespace Go.Proofs.YtamikhobdffnfaaGreatDoor
open Go Go.AV Go.Proofs.Tryz
theorem back_main:Tryz.pinned.checked.prog.mainIs=some (Rows.defBackUptoCard.stood.harness.1,Rows.defBackUptoCard.stood.harness.2.toList):=by kernel_rfl
theorem back_goes:false=Rows.defBackUptoRow.goesBy Tryz.pinned.checked.prog:=by kernel_rfl
theorem back_wf:Rows.defBackUptoRow.wfByText (Rows.OpenSpec.upto Rows.defBackSpec)=true:=by kernel_rfl
theorem back_looks:true=Tryz.pinned.checked.prog.looks []:=by kernel_rfl
theorem back_named:prog.funcNamed Rows.defBackUptoRow.func=some 8:=by kernel_rfl
end Go.Proofs.YtamikhobdffnfaaGreatDoor
end
