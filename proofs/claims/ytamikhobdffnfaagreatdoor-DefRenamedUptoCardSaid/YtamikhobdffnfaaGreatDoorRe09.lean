/-
  Of DefRenamed.
-/
import Derived.Test.YtamikhobdffnfaaGreatDoorRe08
set_option linter.all false
set_option maxRecDepth 99999
set_option maxHeartbeats 0
namespace Go.AV
open Go Go.Proofs Tryz
def zY(l:List (List UInt8)):A:=.list none (l.map .str)
theorem aMB(s:St)(KV Kp:St->A->Prop)(hk:KV s (zY aAY)):Den cx 197 [.str aJq] KV Kp s :=
 aEy aJq aAY (by kernel_rfl) aD aD aD s KV Kp hk
theorem aM6(s:St)(KV Kp:St->A->Prop)(hk:KV s (zY dG)):Den cx 197 [.str aLu] KV Kp s :=
 aEy aLu dG (by kernel_rfl) aD aD aD s KV Kp hk
theorem aMx(s:St)(KV Kp:St->A->Prop)(hk:KV s (zY gX)):Den cx 197 [.str aH7] KV Kp s :=
 aEy aH7 gX (by kernel_rfl) aD aD aD s KV Kp hk
end Go.AV
