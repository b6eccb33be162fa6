/-
  Part of the proof of DefBlanks.
-/
import Derived.Test.YtamikhobdffnfaaGreatDoorBl19
import Derived.Test.YtamikhobdffnfaaGreatDoorBl15
set_option linter.all false
set_option maxRecDepth 1000000
set_option maxHeartbeats 40000000
section
namespace Go.AV
open Go Go.Proofs
def wordsA (l:List (List UInt8)):A:=.list none (l.map .str)
theorem fields_builtIn (s:St) (KV Kp:St→A→Prop) (hk:KV s (wordsA builtInW)):Den cx 197 [.str builtInS] KV Kp s :=
 seat_run (fuel:=100000) rfl (by kernel_rfl) hk
theorem fields_signs (s:St) (KV Kp:St→A→Prop) (hk:KV s (wordsA signsW)):Den cx 197 [.str signsS] KV Kp s :=
 seat_run (fuel:=100000) rfl (by kernel_rfl) hk
theorem fields_reserved (s:St) (KV Kp:St→A→Prop) (hk:KV s (wordsA reservedW)):Den cx 197 [.str reservedS] KV Kp s :=
 seat_run (fuel:=100000) rfl (by kernel_rfl) hk
end Go.AV
end
