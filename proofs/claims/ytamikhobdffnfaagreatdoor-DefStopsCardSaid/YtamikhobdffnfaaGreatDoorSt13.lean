/-
  Part of the proof of DefStops.
-/
import Derived.Test.YtamikhobdffnfaaGreatDoorSt12
import Derived.JoinedCond
set_option linter.all false
set_option maxRecDepth 1000000
set_option maxHeartbeats 40000000
section
namespace Go.Proofs.YtamikhobdffnfaaGreatDoor
open Go Go.AV
theorem stops_k0 : (Rows.defStopsRow.wf (OpenSpec.ofChange Rows.defStopsSpec)) = true := by kernel_rfl
theorem stops_k1 : (laidOutB Tryz.prog) = true := by kernel_rfl
theorem stops_k2 : (mapsRowed Tryz.prog) = true := by kernel_rfl
theorem stops_k3 : (Tryz.f11.params.all (Tryz.prog.readableRec ·)) = true := by kernel_rfl
theorem stops_k4 : (namedTie Tryz.prog Rows.defStopsRow.named Rows.defStopsSpec.vars) = true := by kernel_rfl
theorem stops_k5 : (Rows.defStopsRow.stops == []) = true := by kernel_rfl
theorem stops_k6 : (Tryz.prog.stops == []) = true := by kernel_rfl
theorem stops_k7 : (Rows.defStopsRow.knobs == []) = true := by kernel_rfl
theorem stops_k8 : (Tryz.prog.stopKnobs == []) = true := by kernel_rfl
theorem stops_k9 : (Rows.defStopsRow.inPlace == Tryz.prog.inPlace 11) = true := by kernel_rfl
theorem stops_k10 : (Rows.defStopsRow.unfollowed == Tryz.prog.unfollowed 11) = true := by kernel_rfl
theorem stops_k11 : (Rows.defStopsRow.recurses == Tryz.prog.recurses 11) = true := by kernel_rfl
theorem stops_k12 : (Rows.defStopsRow.named == Tryz.prog.varsNamed 11) = true := by kernel_rfl
theorem stops_k13 : (Rows.defStopsRow.maps == (Tryz.f11.params.toList ++ Rows.defStopsSpec.plain.varTypes Tryz.prog).any (Tryz.prog.mapsRec ·)) = true := by kernel_rfl
theorem stops_k14 : (Rows.defStopsRow.ifaces == (Tryz.f11.params.toList ++ Rows.defStopsSpec.plain.varTypes Tryz.prog).any (Tryz.prog.ifacesRec ·)) = true := by kernel_rfl
theorem stops_k15 : (Rows.defStopsRow.mapsOut == Tryz.prog.mapsAmong Tryz.f11.resultTypes.toList) = true := by kernel_rfl
theorem stops_k16 : (Rows.defStopsRow.loops == (Tryz.f11.params.toList ++ Rows.defStopsSpec.plain.varTypes Tryz.prog).any (Tryz.prog.loopsFrom ·)) = true := by kernel_rfl
theorem stops_k17 : (Rows.defStopsRow.wideKeys == (Tryz.f11.params.toList ++ Rows.defStopsSpec.plain.varTypes Tryz.prog ++ Tryz.f11.resultTypes.toList).any (Tryz.prog.wideKeysFrom ·)) = true := by kernel_rfl
theorem stops_k18 : (Rows.defStopsSpec.vars.all (Tryz.prog.varReadable ·)) = true := by kernel_rfl
theorem stops_k19 : (Tryz.f11.resultTypes.all (fun t => Tryz.prog.readableRec t && decide (t < Tryz.prog.types.size))) = true := by kernel_rfl
theorem stops_k20 : (Rows.defStopsRow.ifacesOut == Tryz.f11.resultTypes.toList.any (Tryz.prog.ifacesRec ·)) = true := by kernel_rfl
theorem stops_k21 : (Rows.defStopsRow.loopsOut == Tryz.f11.resultTypes.toList.any (Tryz.prog.loopsFrom ·)) = true := by kernel_rfl
theorem stops_k22 : (Rows.defStopsRow.plainKeys == Tryz.prog.plainKeys) = true := by kernel_rfl
theorem stops_k23 : (Rows.defStopsRow.shortTexts.isNone) = true := by kernel_rfl
theorem stops_k24 : (Tryz.prog.stopsHeard) = true := by kernel_rfl
theorem stops_k25 : (Tryz.prog.mayEnter) = true := by kernel_rfl
theorem stops_k26 : (Rows.defStopsRow.lifted == Tryz.prog.liftsFinal) = true := by kernel_rfl
theorem stops_k27 : (Tryz.prog.make == some Rows.defStopsRow.make) = true := by kernel_rfl
theorem stops_k28 : (Rows.defStopsRow.kinds == (if Rows.defStopsRow.domain.isEmpty then [] else Tryz.f11.params.toList.map fun t => match Tryz.prog.underlying t with | some (.int k) => some k | _ => none)) = true := by kernel_rfl
theorem stops_k29 : (Rows.defStopsRow.pinned == Rows.defStopsRow.pinnedBy) = true := by kernel_rfl
theorem stops_k30 : (Rows.defStopsRow.veiled == (Tryz.f11.params.toList ++ Rows.defStopsSpec.plain.varTypes Tryz.prog ++ Tryz.f11.resultTypes.toList).any (Tryz.prog.veiledRec ·)) = true := by kernel_rfl
theorem stops_k31 : (Rows.defStopsRow.veiledFits Tryz.prog Tryz.f11.params.toList (Tryz.f11.params.toList ++ Rows.defStopsSpec.plain.varTypes Tryz.prog ++ Tryz.f11.resultTypes.toList)) = true := by kernel_rfl
theorem stops_closed : joinedFacts Tryz.prog 11 Tryz.f11 Rows.defStopsSpec Rows.defStopsRow = true := by
 unfold joinedFacts;simp only [Bool.and_eq_true];exact ⟨⟨⟨⟨⟨⟨⟨⟨⟨⟨⟨⟨⟨⟨⟨⟨⟨⟨⟨⟨⟨⟨⟨⟨⟨⟨⟨⟨⟨⟨⟨stops_k0,stops_k1⟩,stops_k2⟩,stops_k3⟩,stops_k4⟩,stops_k5⟩,stops_k6⟩,stops_k7⟩,stops_k8⟩,stops_k9⟩,stops_k10⟩,stops_k11⟩,stops_k12⟩,stops_k13⟩,stops_k14⟩,stops_k15⟩,stops_k16⟩,stops_k17⟩,stops_k18⟩,stops_k19⟩,stops_k20⟩,stops_k21⟩,stops_k22⟩,stops_k23⟩,stops_k24⟩,stops_k25⟩,stops_k26⟩,stops_k27⟩,stops_k28⟩,stops_k29⟩,stops_k30⟩,stops_k31⟩
end Go.Proofs.YtamikhobdffnfaaGreatDoor
end
