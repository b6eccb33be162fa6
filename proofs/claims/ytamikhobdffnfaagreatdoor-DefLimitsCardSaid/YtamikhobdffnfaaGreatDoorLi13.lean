/-
  Part of the proof of DefLimits.
-/
import Derived.Test.YtamikhobdffnfaaGreatDoorLi12
import Derived.JoinedCond
set_option linter.unusedVariables false
set_option linter.unusedSimpArgs false
set_option linter.all false
section
namespace Go.Proofs.YtamikhobdffnfaaGreatDoor
open Go Go.AV
set_option maxRecDepth 100000
theorem limits_k0 : (Rows.defLimitsRow.wf (OpenSpec.ofChange Rows.defLimitsSpec)) = true := by kernel_rfl
theorem limits_k1 : (laidOutB Tryz.prog) = true := by kernel_rfl
theorem limits_k2 : (mapsRowed Tryz.prog) = true := by kernel_rfl
theorem limits_k3 : (Tryz.f7.params.all (Tryz.prog.readableRec ·)) = true := by kernel_rfl
theorem limits_k4 : (namedTie Tryz.prog Rows.defLimitsRow.named Rows.defLimitsSpec.vars) = true := by kernel_rfl
theorem limits_k5 : (Rows.defLimitsRow.stops == []) = true := by kernel_rfl
theorem limits_k6 : (Tryz.prog.stops == []) = true := by kernel_rfl
theorem limits_k7 : (Rows.defLimitsRow.knobs == []) = true := by kernel_rfl
theorem limits_k8 : (Tryz.prog.stopKnobs == []) = true := by kernel_rfl
theorem limits_k9 : (Rows.defLimitsRow.inPlace == Tryz.prog.inPlace 7) = true := by kernel_rfl
theorem limits_k10 : (Rows.defLimitsRow.unfollowed == Tryz.prog.unfollowed 7) = true := by kernel_rfl
theorem limits_k11 : (Rows.defLimitsRow.recurses == Tryz.prog.recurses 7) = true := by kernel_rfl
theorem limits_k12 : (Rows.defLimitsRow.named == Tryz.prog.varsNamed 7) = true := by kernel_rfl
theorem limits_k13 : (Rows.defLimitsRow.maps == (Tryz.f7.params.toList ++ Rows.defLimitsSpec.plain.varTypes Tryz.prog).any (Tryz.prog.mapsRec ·)) = true := by kernel_rfl
theorem limits_k14 : (Rows.defLimitsRow.ifaces == (Tryz.f7.params.toList ++ Rows.defLimitsSpec.plain.varTypes Tryz.prog).any (Tryz.prog.ifacesRec ·)) = true := by kernel_rfl
theorem limits_k15 : (Rows.defLimitsRow.mapsOut == Tryz.prog.mapsAmong Tryz.f7.resultTypes.toList) = true := by kernel_rfl
theorem limits_k16 : (Rows.defLimitsRow.loops == (Tryz.f7.params.toList ++ Rows.defLimitsSpec.plain.varTypes Tryz.prog).any (Tryz.prog.loopsFrom ·)) = true := by kernel_rfl
theorem limits_k17 : (Rows.defLimitsRow.wideKeys == (Tryz.f7.params.toList ++ Rows.defLimitsSpec.plain.varTypes Tryz.prog ++ Tryz.f7.resultTypes.toList).any (Tryz.prog.wideKeysFrom ·)) = true := by kernel_rfl
theorem limits_k18 : (Rows.defLimitsSpec.vars.all (Tryz.prog.varReadable ·)) = true := by kernel_rfl
theorem limits_k19 : (Tryz.f7.resultTypes.all (fun t => Tryz.prog.readableRec t && decide (t < Tryz.prog.types.size))) = true := by kernel_rfl
theorem limits_k20 : (Rows.defLimitsRow.ifacesOut == Tryz.f7.resultTypes.toList.any (Tryz.prog.ifacesRec ·)) = true := by kernel_rfl
theorem limits_k21 : (Rows.defLimitsRow.loopsOut == Tryz.f7.resultTypes.toList.any (Tryz.prog.loopsFrom ·)) = true := by kernel_rfl
theorem limits_k22 : (Rows.defLimitsRow.plainKeys == Tryz.prog.plainKeys) = true := by kernel_rfl
theorem limits_k23 : (Rows.defLimitsRow.shortTexts.isNone) = true := by kernel_rfl
theorem limits_k24 : (Tryz.prog.stopsHeard) = true := by kernel_rfl
theorem limits_k25 : (Tryz.prog.mayEnter) = true := by kernel_rfl
theorem limits_k26 : (Rows.defLimitsRow.lifted == Tryz.prog.liftsFinal) = true := by kernel_rfl
theorem limits_k27 : (Tryz.prog.make == some Rows.defLimitsRow.make) = true := by kernel_rfl
theorem limits_k28 : (Rows.defLimitsRow.kinds == (if Rows.defLimitsRow.domain.isEmpty then [] else Tryz.f7.params.toList.map fun t => match Tryz.prog.underlying t with | some (.int k) => some k | _ => none)) = true := by kernel_rfl
theorem limits_k29 : (Rows.defLimitsRow.pinned == Rows.defLimitsRow.pinnedBy) = true := by kernel_rfl
theorem limits_k30 : (Rows.defLimitsRow.veiled == (Tryz.f7.params.toList ++ Rows.defLimitsSpec.plain.varTypes Tryz.prog ++ Tryz.f7.resultTypes.toList).any (Tryz.prog.veiledRec ·)) = true := by kernel_rfl
theorem limits_k31 : (Rows.defLimitsRow.veiledFits Tryz.prog Tryz.f7.params.toList (Tryz.f7.params.toList ++ Rows.defLimitsSpec.plain.varTypes Tryz.prog ++ Tryz.f7.resultTypes.toList)) = true := by kernel_rfl
theorem limits_closed : joinedFacts Tryz.prog 7 Tryz.f7 Rows.defLimitsSpec Rows.defLimitsRow = true := by
 unfold joinedFacts
 simp only [Bool.and_eq_true]
 exact ⟨⟨⟨⟨⟨⟨⟨⟨⟨⟨⟨⟨⟨⟨⟨⟨⟨⟨⟨⟨⟨⟨⟨⟨⟨⟨⟨⟨⟨⟨⟨limits_k0,limits_k1⟩,limits_k2⟩,limits_k3⟩,limits_k4⟩,limits_k5⟩,limits_k6⟩,limits_k7⟩,limits_k8⟩,limits_k9⟩,limits_k10⟩,limits_k11⟩,limits_k12⟩,limits_k13⟩,limits_k14⟩,limits_k15⟩,limits_k16⟩,limits_k17⟩,limits_k18⟩,limits_k19⟩,limits_k20⟩,limits_k21⟩,limits_k22⟩,limits_k23⟩,limits_k24⟩,limits_k25⟩,limits_k26⟩,limits_k27⟩,limits_k28⟩,limits_k29⟩,limits_k30⟩,limits_k31⟩
end Go.Proofs.YtamikhobdffnfaaGreatDoor
end
