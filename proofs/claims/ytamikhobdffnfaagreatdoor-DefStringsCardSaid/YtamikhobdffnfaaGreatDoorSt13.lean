/-
  Of DefStrings.
-/
import Derived.Test.YtamikhobdffnfaaGreatDoorSt11
set_option linter.all false
set_option maxRecDepth 99999
set_option maxHeartbeats 0
section
open Go.Proofs.Tryz
namespace Go.Proofs.YtamikhobdffnfaaGreatDoor
open Go Go.AV Go.Proofs.Tryz
theorem strs_main:Tryz.pinned.checked.prog.mainIs=some (Rows.defStringsCard.stood.harness.1,Rows.defStringsCard.stood.harness.2.toList):=by kernel_rfl
theorem strs_goes:false=Rows.defStringsRow.goesBy Tryz.pinned.checked.prog:=by kernel_rfl
theorem strs_wf:Rows.defStringsRow.wfByText (OpenSpec.ofChange Rows.defStringsSpec)=true:=by kernel_rfl
theorem strs_looks:true=Tryz.pinned.checked.prog.looks []:=by kernel_rfl
theorem strs_named:prog.funcNamed Rows.defStringsRow.func=some 12:=by kernel_rfl
end Go.Proofs.YtamikhobdffnfaaGreatDoor
end
