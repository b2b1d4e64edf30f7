/- Part 19 of the proof of the statement that the last part names; it asks for no condition of its own. Here: RowCCc. -/
import Derived.Test.YtgkfbembnlgahaaGreatDoorRows
import Derived.JoinedOf
import Derived.KernelRfl
/- The closed facts of a row, one by one. -/
set_option maxRecDepth 100000
namespace Go.Proofs.YtgkfbembnlgahaaGreatDoor
open Go
theorem CC_k0 : (Rows.chartClassesRow.wf (OpenSpec.ofChange Rows.chartClassesSpec)) = true := by kernel_rfl
theorem CC_k1 : (laidOutB Tryz.pinned.checked.prog) = true := by kernel_rfl
theorem CC_k2 : (mapsRowed Tryz.pinned.checked.prog) = true := by kernel_rfl
theorem CC_k3 : (Tryz.f8.params.all (Tryz.pinned.checked.prog.readableRec ·)) = true := by kernel_rfl
theorem CC_k4 : (namedTie Tryz.pinned.checked.prog Rows.chartClassesRow.named Rows.chartClassesSpec.vars) = true := by kernel_rfl
theorem CC_k5 : ((Rows.chartClassesRow.stops == [])) = true := by kernel_rfl
theorem CC_k6 : ((Tryz.pinned.checked.prog.stops == [])) = true := by kernel_rfl
theorem CC_k7 : ((Rows.chartClassesRow.knobs == [])) = true := by kernel_rfl
theorem CC_k8 : ((Tryz.pinned.checked.prog.stopKnobs == [])) = true := by kernel_rfl
theorem CC_k9 : ((Rows.chartClassesRow.inPlace == Tryz.pinned.checked.prog.inPlace 8)) = true := by kernel_rfl
theorem CC_k10 : ((Rows.chartClassesRow.unfollowed == Tryz.pinned.checked.prog.unfollowed 8)) = true := by kernel_rfl
theorem CC_k11 : ((Rows.chartClassesRow.recurses == Tryz.pinned.checked.prog.recurses 8)) = true := by kernel_rfl
theorem CC_k12 : ((Rows.chartClassesRow.named == Tryz.pinned.checked.prog.varsNamed 8)) = true := by kernel_rfl
theorem CC_k13 : ((Rows.chartClassesRow.maps == (Tryz.f8.params.toList ++ Rows.chartClassesSpec.plain.varTypes Tryz.pinned.checked.prog).any (Tryz.pinned.checked.prog.mapsRec ·))) = true := by kernel_rfl
theorem CC_k14 : ((Rows.chartClassesRow.ifaces == (Tryz.f8.params.toList ++ Rows.chartClassesSpec.plain.varTypes Tryz.pinned.checked.prog).any (Tryz.pinned.checked.prog.ifacesRec ·))) = true := by kernel_rfl
theorem CC_k15 : ((Rows.chartClassesRow.mapsOut == Tryz.pinned.checked.prog.mapsAmong Tryz.f8.resultTypes.toList)) = true := by kernel_rfl
theorem CC_k16 : ((Rows.chartClassesRow.loops == (Tryz.f8.params.toList ++ Rows.chartClassesSpec.plain.varTypes Tryz.pinned.checked.prog).any (Tryz.pinned.checked.prog.loopsFrom ·))) = true := by kernel_rfl
theorem CC_k17 : ((Rows.chartClassesRow.wideKeys == (Tryz.f8.params.toList ++ Rows.chartClassesSpec.plain.varTypes Tryz.pinned.checked.prog ++ Tryz.f8.resultTypes.toList).any (Tryz.pinned.checked.prog.wideKeysFrom ·))) = true := by kernel_rfl
theorem CC_k18 : (Rows.chartClassesSpec.vars.all (Tryz.pinned.checked.prog.varReadable ·)) = true := by kernel_rfl
theorem CC_k19 : (Tryz.f8.resultTypes.all (fun t => Tryz.pinned.checked.prog.readableRec t && decide (t < Tryz.pinned.checked.prog.types.size))) = true := by kernel_rfl
theorem CC_k20 : ((Rows.chartClassesRow.ifacesOut == Tryz.f8.resultTypes.toList.any (Tryz.pinned.checked.prog.ifacesRec ·))) = true := by kernel_rfl
theorem CC_k21 : ((Rows.chartClassesRow.loopsOut == Tryz.f8.resultTypes.toList.any (Tryz.pinned.checked.prog.loopsFrom ·))) = true := by kernel_rfl
theorem CC_k22 : ((Rows.chartClassesRow.plainKeys == Tryz.pinned.checked.prog.plainKeys)) = true := by kernel_rfl
theorem CC_k23 : (Rows.chartClassesRow.shortTexts.isNone) = true := by kernel_rfl
theorem CC_k24 : (Tryz.pinned.checked.prog.stopsHeard) = true := by kernel_rfl
theorem CC_k25 : (Tryz.pinned.checked.prog.mayEnter) = true := by kernel_rfl
theorem CC_k26 : ((Rows.chartClassesRow.lifted == Tryz.pinned.checked.prog.liftsFinal)) = true := by kernel_rfl
theorem CC_k27 : ((Tryz.pinned.checked.prog.make == some Rows.chartClassesRow.make)) = true := by kernel_rfl
theorem CC_k28 : ((Rows.chartClassesRow.kinds == (if Rows.chartClassesRow.domain.isEmpty then [] else Tryz.f8.params.toList.map fun t => match Tryz.pinned.checked.prog.underlying t with | some (.int k) => some k | _ => none))) = true := by kernel_rfl
theorem CC_k29 : ((Rows.chartClassesRow.pinned == Rows.chartClassesRow.pinnedBy)) = true := by kernel_rfl
theorem CC_k30 : ((Rows.chartClassesRow.veiled == (Tryz.f8.params.toList ++ Rows.chartClassesSpec.plain.varTypes Tryz.pinned.checked.prog ++ Tryz.f8.resultTypes.toList).any (Tryz.pinned.checked.prog.veiledRec ·))) = true := by kernel_rfl
theorem CC_k31 : (Rows.chartClassesRow.veiledFits Tryz.pinned.checked.prog Tryz.f8.params.toList (Tryz.f8.params.toList ++ Rows.chartClassesSpec.plain.varTypes Tryz.pinned.checked.prog ++ Tryz.f8.resultTypes.toList)) = true := by kernel_rfl
theorem CC_closed : joinedFacts Tryz.pinned.checked.prog 8 Tryz.f8 Rows.chartClassesSpec Rows.chartClassesRow = true := by
  unfold joinedFacts
  simp only [Bool.and_eq_true]
  exact ⟨⟨⟨⟨⟨⟨⟨⟨⟨⟨⟨⟨⟨⟨⟨⟨⟨⟨⟨⟨⟨⟨⟨⟨⟨⟨⟨⟨⟨⟨⟨CC_k0, CC_k1⟩, CC_k2⟩, CC_k3⟩, CC_k4⟩, CC_k5⟩, CC_k6⟩, CC_k7⟩, CC_k8⟩, CC_k9⟩, CC_k10⟩, CC_k11⟩, CC_k12⟩, CC_k13⟩, CC_k14⟩, CC_k15⟩, CC_k16⟩, CC_k17⟩, CC_k18⟩, CC_k19⟩, CC_k20⟩, CC_k21⟩, CC_k22⟩, CC_k23⟩, CC_k24⟩, CC_k25⟩, CC_k26⟩, CC_k27⟩, CC_k28⟩, CC_k29⟩, CC_k30⟩, CC_k31⟩
end Go.Proofs.YtgkfbembnlgahaaGreatDoor
