/-
  Part of the proof of DefTerms.
-/
import Derived.Test.YtamikhobdffnfaaGreatDoorTe12
set_option linter.all false
set_option maxRecDepth 1000000
set_option maxHeartbeats 40000000
section
namespace Go.Proofs.YtamikhobdffnfaaGreatDoor
open Go Go.AV
theorem terms_main:Tryz.pinned.checked.prog.mainIs=some (Rows.defTermsCard.stood.harness.1,Rows.defTermsCard.stood.harness.2.toList):=by kernel_rfl
theorem terms_goes:false=Rows.defTermsRow.goesBy Tryz.pinned.checked.prog:=by kernel_rfl
theorem terms_wf:Rows.defTermsRow.wfByText (OpenSpec.ofChange Rows.defTermsSpec)=true:=by kernel_rfl
theorem terms_looks:true=Tryz.pinned.checked.prog.looks []:=by kernel_rfl
theorem terms_named:Tryz.prog.funcNamed Rows.defTermsRow.func=some 4:=by kernel_rfl
end Go.Proofs.YtamikhobdffnfaaGreatDoor
end
