/-
  Part of the proof of DefStops.
-/
import Derived.Test.YtamikhobdffnfaaGreatDoorSt12
set_option linter.all false
set_option maxRecDepth 1000000
set_option maxHeartbeats 40000000
section
namespace Go.Proofs.YtamikhobdffnfaaGreatDoor
open Go Go.AV
theorem stops_main : Tryz.pinned.checked.prog.mainIs = some (Rows.defStopsCard.stood.harness.1,Rows.defStopsCard.stood.harness.2.toList) := by kernel_rfl
theorem stops_goes : false = Rows.defStopsRow.goesBy Tryz.pinned.checked.prog := by kernel_rfl
theorem stops_wf : Rows.defStopsRow.wfByText (OpenSpec.ofChange Rows.defStopsSpec) = true := by kernel_rfl
theorem stops_looks : true = Tryz.pinned.checked.prog.looks [] := by kernel_rfl
theorem stops_named : Tryz.prog.funcNamed Rows.defStopsRow.func = some 11 := by kernel_rfl
end Go.Proofs.YtamikhobdffnfaaGreatDoor
end
