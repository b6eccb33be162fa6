/-
  Of CheckTells.
-/
import Derived.Test.YthaljojbclndaaaGreatDoorCt06
set_option linter.all false
set_option maxRecDepth 99999
set_option maxHeartbeats 0
namespace Go.AV
open Go Go.Proofs Tryz
theorem aQT:aAK aNY mU ⟨0,[],0,0⟩:=λKV Kp s h=>aD5 (fuel:=100000) aD4 rfl (by decide +kernel) h
end Go.AV
