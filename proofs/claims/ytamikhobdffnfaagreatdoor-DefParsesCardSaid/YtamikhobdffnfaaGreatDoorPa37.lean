/-
  Of DefParses.
-/
import Derived.Test.YtamikhobdffnfaaGreatDoorPa32
set_option linter.all false
set_option maxRecDepth 99999
set_option maxHeartbeats 0
namespace Go.AV
open Go Go.Proofs Tryz
theorem aRP (s:St) (KV Kp:St→A→Prop) (hk:KV s (.bool true)):Den cx 30 [nC.enc,nC.enc] KV Kp s :=
 xP (fuel:=1000000) rfl (by kernel_rfl) hk
theorem aRg (s:St) (KV Kp:St→A→Prop) (hk:KV s (.bool false)):Den cx 30 [nC.enc,.agg awR] KV Kp s :=
 xP (fuel:=1000000) rfl (by kernel_rfl) hk
end Go.AV
