/-
  Of DefParses.
-/
import Derived.Test.YtamikhobdffnfaaGreatDoorPa11
set_option linter.all false
set_option maxRecDepth 99999
set_option maxHeartbeats 0
section
open Go.Proofs.Tryz
namespace Go.Proofs.YtamikhobdffnfaaGreatDoor
open Go Go.AV Go.Proofs.Tryz
theorem parses_main:Tryz.pinned.checked.prog.mainIs=some (Rows.defParsesCard.stood.harness.1,Rows.defParsesCard.stood.harness.2.toList):=by kernel_rfl
theorem parses_goes:false=Rows.defParsesRow.goesBy Tryz.pinned.checked.prog:=by kernel_rfl
theorem parses_wf:Rows.defParsesRow.wfByText (OpenSpec.ofChange Rows.defParsesSpec)=true:=by kernel_rfl
theorem parses_looks:true=Tryz.pinned.checked.prog.looks []:=by kernel_rfl
theorem parses_named:prog.funcNamed Rows.defParsesRow.func=some 3:=by kernel_rfl
end Go.Proofs.YtamikhobdffnfaaGreatDoor
end
