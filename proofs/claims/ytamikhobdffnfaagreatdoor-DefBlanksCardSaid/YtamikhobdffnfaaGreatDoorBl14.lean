/-
  Part of the proof of DefBlanks.
-/
import Derived.Test.YtamikhobdffnfaaGreatDoorBl12
set_option linter.all false
set_option maxRecDepth 1000000
set_option maxHeartbeats 40000000
section
namespace Go.Proofs.YtamikhobdffnfaaGreatDoor
open Go Go.AV
theorem blanks_main:Tryz.pinned.checked.prog.mainIs=some (Rows.defBlanksCard.stood.harness.1,Rows.defBlanksCard.stood.harness.2.toList):=by kernel_rfl
theorem blanks_goes:false=Rows.defBlanksRow.goesBy Tryz.pinned.checked.prog:=by kernel_rfl
theorem blanks_wf:Rows.defBlanksRow.wfByText (OpenSpec.ofChange Rows.defBlanksSpec)=true:=by kernel_rfl
theorem blanks_looks:true=Tryz.pinned.checked.prog.looks []:=by kernel_rfl
theorem blanks_named:Tryz.prog.funcNamed Rows.defBlanksRow.func=some 9:=by kernel_rfl
end Go.Proofs.YtamikhobdffnfaaGreatDoor
end
