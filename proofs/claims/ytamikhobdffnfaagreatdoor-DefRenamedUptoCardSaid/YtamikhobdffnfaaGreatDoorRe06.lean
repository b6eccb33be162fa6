/-
  Of DefRenamed.
-/
import Derived.Test.YtamikhobdffnfaaGreatDoorRe04
set_option linter.all false
set_option maxRecDepth 99999
set_option maxHeartbeats 0
section
open Go.Proofs.Tryz
namespace Go.Proofs.YtamikhobdffnfaaGreatDoor
open Go Go.AV Go.Proofs.Tryz
theorem renamed_main:Tryz.pinned.checked.prog.mainIs=some (Rows.defRenamedUptoCard.stood.harness.1,Rows.defRenamedUptoCard.stood.harness.2.toList):=by kernel_rfl
theorem renamed_goes:false=Rows.defRenamedUptoRow.goesBy Tryz.pinned.checked.prog:=by kernel_rfl
theorem renamed_wf:Rows.defRenamedUptoRow.wfByText (Rows.OpenSpec.upto Rows.defRenamedSpec)=true:=by kernel_rfl
theorem renamed_looks:true=Tryz.pinned.checked.prog.looks []:=by kernel_rfl
theorem renamed_named:prog.funcNamed Rows.defRenamedUptoRow.func=some 10:=by kernel_rfl
end Go.Proofs.YtamikhobdffnfaaGreatDoor
end
