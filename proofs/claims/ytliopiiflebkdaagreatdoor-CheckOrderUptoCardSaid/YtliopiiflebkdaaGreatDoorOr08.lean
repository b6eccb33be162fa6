/-
  Of CheckOrder.
-/
import Derived.Test.YtliopiiflebkdaaGreatDoorOr07
set_option linter.all false
set_option maxRecDepth 99999
set_option maxHeartbeats 0
namespace Go.AV
open Go Go.Proofs Tryz
def vI(l:List (List UInt8)):A:=.list none (l.map .str)
theorem aIq(s:St)(KV Kp:St->A->Prop)(h:KV s (vI jQ)):Den cx 135 [.str aGb] KV Kp s :=
 aBX aGb jQ (by kernel_rfl) fJ fJ fJ s KV Kp h
theorem aJn(s:St)(KV Kp:St->A->Prop)(h:KV s (vI gV)):Den cx 135 [.str aHu] KV Kp s :=
 aBX aHu gV (by kernel_rfl) fJ fJ fJ s KV Kp h
theorem aIn(s:St)(KV Kp:St->A->Prop)(h:KV s (vI kF)):Den cx 135 [.str aFs] KV Kp s :=
 aBX aFs kF (by kernel_rfl) fJ fJ fJ s KV Kp h
end Go.AV
