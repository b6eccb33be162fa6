/-
  Of DefBack.
-/
import Derived.Test.YtamikhobdffnfaaGreatDoorBa08
set_option linter.all false
set_option maxRecDepth 99999
set_option maxHeartbeats 0
namespace Go.AV
open Go Go.Proofs Tryz
def aBe(l:List (List UInt8)):A:=.list none (l.map .str)
theorem aOk(s:St)(KV Kp:St->A->Prop)(h:KV s (aBe aB9)):Den cx 197 [.str aKw] KV Kp s :=
 aFA aKw aB9 (by kernel_rfl) aE aE aE s KV Kp h
theorem aO2(s:St)(KV Kp:St->A->Prop)(h:KV s (aBe dR)):Den cx 197 [.str aMT] KV Kp s :=
 aFA aMT dR (by kernel_rfl) aE aE aE s KV Kp h
theorem aOb(s:St)(KV Kp:St->A->Prop)(h:KV s (aBe iM)):Den cx 197 [.str aJD] KV Kp s :=
 aFA aJD iM (by kernel_rfl) aE aE aE s KV Kp h
end Go.AV
