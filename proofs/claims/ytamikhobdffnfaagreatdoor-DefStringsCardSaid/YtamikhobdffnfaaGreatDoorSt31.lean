/-
  Of DefStrings.
-/
import Derived.Test.YtamikhobdffnfaaGreatDoorSt26
set_option linter.all false
set_option maxRecDepth 99999
set_option maxHeartbeats 0
namespace Go.AV
open Go Go.Proofs Tryz
theorem aO3 (s:St) (KV Kp:St→A→Prop) (hk:KV s (.bool true)):Den cx 30 [kC.enc,kC.enc] KV Kp s :=
 tK (fuel:=1000000) rfl (by kernel_rfl) hk
theorem aN5 (s:St) (KV Kp:St→A→Prop) (hk:KV s (.bool false)):Den cx 30 [kC.enc,.agg awR] KV Kp s :=
 tK (fuel:=1000000) rfl (by kernel_rfl) hk
end Go.AV
