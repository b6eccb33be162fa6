/-
  Of DefParses.
-/
import Derived.Test.YtamikhobdffnfaaGreatDoorPa18
set_option linter.all false
set_option maxRecDepth 99999
set_option maxHeartbeats 0
namespace Go.AV
open Go Go.Proofs Tryz
def yO (l:List (List UInt8)):A:=.list none (l.map .str)
theorem aKE (s:St) (KV Kp:St→A→Prop) (hk:KV s (yO aBY)):Den cx 197 [.str aNv] KV Kp s :=
 aEo (fuel:=100000) rfl (by kernel_rfl) hk
theorem aK1 (s:St) (KV Kp:St→A→Prop) (hk:KV s (yO dX)):Den cx 197 [.str aPL] KV Kp s :=
 aEo (fuel:=100000) rfl (by kernel_rfl) hk
theorem aKA (s:St) (KV Kp:St→A→Prop) (hk:KV s (yO jL)):Den cx 197 [.str aMn] KV Kp s :=
 aEo (fuel:=100000) rfl (by kernel_rfl) hk
end Go.AV
