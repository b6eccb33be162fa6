/-
  Part of the proof of DefSames.
-/
import Derived.Test.YtamikhobdffnfaaGreatDoorSa12
set_option linter.all false
set_option maxRecDepth 1000000
set_option maxHeartbeats 40000000
section
namespace Go.Proofs.YtamikhobdffnfaaGreatDoor
open Go Go.AV
theorem sames_main:Tryz.pinned.checked.prog.mainIs=some (Rows.defSamesUptoCard.stood.harness.1,Rows.defSamesUptoCard.stood.harness.2.toList):=by kernel_rfl
theorem sames_goes:false=Rows.defSamesUptoRow.goesBy Tryz.pinned.checked.prog:=by kernel_rfl
theorem sames_wf:Rows.defSamesUptoRow.wfByText (Rows.OpenSpec.upto Rows.defSamesSpec)=true:=by kernel_rfl
theorem sames_looks:true=Tryz.pinned.checked.prog.looks []:=by kernel_rfl
theorem sames_named:Tryz.prog.funcNamed Rows.defSamesUptoRow.func=some 6:=by kernel_rfl
end Go.Proofs.YtamikhobdffnfaaGreatDoor
end
