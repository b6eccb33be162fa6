/-
  Of DefStrings.
-/
import Derived.Test.YtamikhobdffnfaaGreatDoorSt17
set_option linter.all false
set_option maxRecDepth 99999
set_option maxHeartbeats 0
namespace Go.AV
open Go Go.Proofs Tryz
def uG (l:List (List UInt8)):A:=.list none (l.map .str)
theorem aIa (s:St) (KV Kp:St→A→Prop) (hk:KV s (uG yS)):Den cx 197 [.str aLc] KV Kp s :=
 aCb (fuel:=100000) rfl (by kernel_rfl) hk
theorem aID (s:St) (KV Kp:St→A→Prop) (hk:KV s (uG cR)):Den cx 197 [.str aMC] KV Kp s :=
 aCb (fuel:=100000) rfl (by kernel_rfl) hk
theorem aH8 (s:St) (KV Kp:St→A→Prop) (hk:KV s (uG dE)):Den cx 197 [.str aJM] KV Kp s :=
 aCb (fuel:=100000) rfl (by kernel_rfl) hk
end Go.AV
