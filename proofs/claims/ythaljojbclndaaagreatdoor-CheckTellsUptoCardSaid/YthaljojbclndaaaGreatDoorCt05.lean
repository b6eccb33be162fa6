/-
  Of CheckTells.
-/
import Derived.Test.YthaljojbclndaaaGreatDoorCt04
set_option linter.all false
set_option maxRecDepth 99999
set_option maxHeartbeats 0
namespace Go.AV
open Go Go.Proofs Tryz
def zJ(l:List (List UInt8)):A:=.list none (l.map .str)
theorem aPi(s:St)(KV Kp:St->A->Prop)(h:KV s (zJ fX)):Den cx 184 [.str aLw] KV Kp s :=
 aGc aLw fX (by kernel_rfl) cT cT cT s KV Kp h
theorem aJk(s:St)(KV Kp:St->A->Prop)(h:KV s (zJ vG)):Den cx 184 [.str aEC] KV Kp s :=
 aGc aEC vG (by kernel_rfl) cT cT cT s KV Kp h
theorem aO9(s:St)(KV Kp:St->A->Prop)(h:KV s (zJ aAH)):Den cx 184 [.str aLh] KV Kp s :=
 aGc aLh aAH (by kernel_rfl) cT cT cT s KV Kp h
end Go.AV
