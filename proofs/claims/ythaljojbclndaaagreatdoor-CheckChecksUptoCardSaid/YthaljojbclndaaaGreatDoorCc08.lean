/-
  Of CheckChecks.
-/
import Derived.Test.YthaljojbclndaaaGreatDoorCc07
set_option linter.all false
set_option maxRecDepth 99999
set_option maxHeartbeats 0
namespace Go.AV
open Go Go.Proofs Tryz
def aAN(l:List (List UInt8)):A:=.list none (l.map .str)
theorem aNZ(s:St)(KV Kp:St->A->Prop)(h:KV s (aAN gY)):Den cx 184 [.str aKP] KV Kp s :=
 aFC aKP gY (by kernel_rfl) dM dM dM s KV Kp h
theorem aOW(s:St)(KV Kp:St->A->Prop)(h:KV s (aAN kS)):Den cx 184 [.str aMH] KV Kp s :=
 aFC aMH kS (by kernel_rfl) dM dM dM s KV Kp h
theorem aNK(s:St)(KV Kp:St->A->Prop)(h:KV s (aAN nZ)):Den cx 184 [.str aKm] KV Kp s :=
 aFC aKm nZ (by kernel_rfl) dM dM dM s KV Kp h
end Go.AV
