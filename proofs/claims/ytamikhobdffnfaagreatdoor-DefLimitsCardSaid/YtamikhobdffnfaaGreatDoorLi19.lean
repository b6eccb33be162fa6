/-
  Part of the proof of DefLimits.
-/
import Derived.Test.YtamikhobdffnfaaGreatDoorLi18
import Derived.Test.YtamikhobdffnfaaGreatDoorLi15
set_option linter.unusedVariables false
set_option linter.unusedSimpArgs false
set_option linter.all false
section
namespace Go.AV
open Go Go.Proofs
set_option maxRecDepth 100000
def wordsA (l : List (List UInt8)) : A := .list none (l.map .str)
theorem fields_builtIn (s : St) (KV Kp : St → A → Prop) (hk : KV s (wordsA builtInW)) : Den cx 197 [.str builtInS] KV Kp s :=
 seat_run (fuel := 100000) rfl (by kernel_rfl) hk
theorem fields_signs (s : St) (KV Kp : St → A → Prop) (hk : KV s (wordsA signsW)) : Den cx 197 [.str signsS] KV Kp s :=
 seat_run (fuel := 100000) rfl (by kernel_rfl) hk
theorem fields_reserved (s : St) (KV Kp : St → A → Prop) (hk : KV s (wordsA reservedW)) : Den cx 197 [.str reservedS] KV Kp s :=
 seat_run (fuel := 100000) rfl (by kernel_rfl) hk
end Go.AV
end
