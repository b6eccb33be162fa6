/-
  Part of the proof of DefLimits.
-/
import Derived.Test.YtamikhobdffnfaaGreatDoorLi28
set_option linter.unusedVariables false
set_option linter.unusedSimpArgs false
set_option linter.all false
section
namespace Go.AV
open Go Go.Proofs
set_option maxRecDepth 1000000
theorem aw30 (s : St) (KV Kp : St → A → Prop) (hk : KV s (.bool true)) : Den cx 30 [awD.enc,awD.enc] KV Kp s :=
 seat_runC (fuel := 1000000) rfl (by kernel_rfl) hk
theorem aw30r (s : St) (KV Kp : St → A → Prop) (hk : KV s (.bool false)) : Den cx 30 [awD.enc,.agg awR] KV Kp s :=
 seat_runC (fuel := 1000000) rfl (by kernel_rfl) hk
end Go.AV
end
