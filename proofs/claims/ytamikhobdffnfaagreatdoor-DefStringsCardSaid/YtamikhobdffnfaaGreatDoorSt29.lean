/-
  Of DefStrings.
-/
import Derived.Test.YtamikhobdffnfaaGreatDoorSt26
set_option linter.all false
set_option maxRecDepth 99999
set_option maxHeartbeats 0
namespace Go.AV
open Go Go.Proofs Tryz
theorem aOh (s:St) (KV Kp:St→A→Prop) (hk:KV s (.tuple [.agg awZ,.int .i64 2])):Den cx 27 [kC.enc,.str [73,110,116],.str [98]] KV Kp s :=
 tK (fuel:=1000000) rfl (by kernel_rfl) hk
end Go.AV
