/-
  Part of the proof of DefLimits.
-/
import Derived.Test.YtamikhobdffnfaaGreatDoorLi12
set_option linter.unusedVariables false
set_option linter.unusedSimpArgs false
set_option linter.all false
section
namespace Go.Proofs.YtamikhobdffnfaaGreatDoor
open Go Go.AV
set_option maxRecDepth 100000
theorem limits_main : Tryz.pinned.checked.prog.mainIs = some (Rows.defLimitsCard.stood.harness.1,Rows.defLimitsCard.stood.harness.2.toList) := by kernel_rfl
theorem limits_goes : false = Rows.defLimitsRow.goesBy Tryz.pinned.checked.prog := by kernel_rfl
theorem limits_wf : Rows.defLimitsRow.wfByText (OpenSpec.ofChange Rows.defLimitsSpec) = true := by kernel_rfl
theorem limits_looks : true = Tryz.pinned.checked.prog.looks [] := by kernel_rfl
theorem limits_named : Tryz.prog.funcNamed "voussoir/voussoirlaw06.DefLimits" = some 7 := by kernel_rfl
end Go.Proofs.YtamikhobdffnfaaGreatDoor
end
