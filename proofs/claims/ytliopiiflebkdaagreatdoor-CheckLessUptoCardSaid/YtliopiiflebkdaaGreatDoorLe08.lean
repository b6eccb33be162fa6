/-
  Of CheckLess.
-/
import Derived.Test.YtliopiiflebkdaaGreatDoorLe07
set_option linter.all false
set_option maxRecDepth 99999
set_option maxHeartbeats 0
namespace Go.AV
open Go Go.Proofs Tryz
def vJ(l:List (List UInt8)):A:=.list none (l.map .str)
theorem aIx(s:St)(KV Kp:St->A->Prop)(h:KV s (vJ jQ)):Den cx 135 [.str aGq] KV Kp s :=
 aB2 aGq jQ (by kernel_rfl) fK fK fK s KV Kp h
theorem aI4(s:St)(KV Kp:St->A->Prop)(h:KV s (vJ gV)):Den cx 135 [.str aHs] KV Kp s :=
 aB2 aHs gV (by kernel_rfl) fK fK fK s KV Kp h
theorem aIw(s:St)(KV Kp:St->A->Prop)(h:KV s (vJ kG)):Den cx 135 [.str aFA] KV Kp s :=
 aB2 aFA kG (by kernel_rfl) fK fK fK s KV Kp h
end Go.AV
