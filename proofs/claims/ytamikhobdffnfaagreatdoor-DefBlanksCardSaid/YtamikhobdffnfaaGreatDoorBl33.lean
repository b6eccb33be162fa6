/-
  Part of the proof of DefBlanks.
-/
import Derived.Test.YtamikhobdffnfaaGreatDoorBl29
set_option linter.all false
set_option maxRecDepth 1000000
set_option maxHeartbeats 40000000
section
namespace Go.AV
open Go Go.Proofs
theorem aw27 (s:St) (KV Kp:St→A→Prop) (hk:KV s (.tuple [.agg awR,.int .i64 0])):Den cx 27 [awD.enc,.str [97],.str [98]] KV Kp s :=
 seat_runC (fuel:=1000000) rfl (by kernel_rfl) hk
end Go.AV
end
