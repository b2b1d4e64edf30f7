/- Part 19 of the proof of the statement that the last part names; it asks for no condition of its own. Here: RowCRc. -/
import Derived.Test.YtgkfbembnlgahaaGreatDoorRows
import Derived.JoinedOf
import Derived.KernelRfl
/- The closed facts of a row, one by one. -/
set_option maxRecDepth 100000
namespace Go.Proofs.YtgkfbembnlgahaaGreatDoor
open Go
theorem CR_k0 : (Rows.chartRangesRow.wf (OpenSpec.ofChange Rows.chartRangesSpec)) = true := by kernel_rfl
theorem CR_k1 : (laidOutB Tryz.pinned.checked.prog) = true := by kernel_rfl
theorem CR_k2 : (mapsRowed Tryz.pinned.checked.prog) = true := by kernel_rfl
theorem CR_k3 : (Tryz.f9.params.all (Tryz.pinned.checked.prog.readableRec ·)) = true := by kernel_rfl
theorem CR_k4 : (namedTie Tryz.pinned.checked.prog Rows.chartRangesRow.named Rows.chartRangesSpec.vars) = true := by kernel_rfl
theorem CR_k5 : ((Rows.chartRangesRow.stops == [])) = true := by kernel_rfl
theorem CR_k6 : ((Tryz.pinned.checked.prog.stops == [])) = true := by kernel_rfl
theorem CR_k7 : ((Rows.chartRangesRow.knobs == [])) = true := by kernel_rfl
theorem CR_k8 : ((Tryz.pinned.checked.prog.stopKnobs == [])) = true := by kernel_rfl
theorem CR_k9 : ((Rows.chartRangesRow.inPlace == Tryz.pinned.checked.prog.inPlace 9)) = true := by kernel_rfl
theorem CR_k10 : ((Rows.chartRangesRow.unfollowed == Tryz.pinned.checked.prog.unfollowed 9)) = true := by kernel_rfl
theorem CR_k11 : ((Rows.chartRangesRow.recurses == Tryz.pinned.checked.prog.recurses 9)) = true := by kernel_rfl
theorem CR_k12 : ((Rows.chartRangesRow.named == Tryz.pinned.checked.prog.varsNamed 9)) = true := by kernel_rfl
theorem CR_k13 : ((Rows.chartRangesRow.maps == (Tryz.f9.params.toList ++ Rows.chartRangesSpec.plain.varTypes Tryz.pinned.checked.prog).any (Tryz.pinned.checked.prog.mapsRec ·))) = true := by kernel_rfl
theorem CR_k14 : ((Rows.chartRangesRow.ifaces == (Tryz.f9.params.toList ++ Rows.chartRangesSpec.plain.varTypes Tryz.pinned.checked.prog).any (Tryz.pinned.checked.prog.ifacesRec ·))) = true := by kernel_rfl
theorem CR_k15 : ((Rows.chartRangesRow.mapsOut == Tryz.pinned.checked.prog.mapsAmong Tryz.f9.resultTypes.toList)) = true := by kernel_rfl
theorem CR_k16 : ((Rows.chartRangesRow.loops == (Tryz.f9.params.toList ++ Rows.chartRangesSpec.plain.varTypes Tryz.pinned.checked.prog).any (Tryz.pinned.checked.prog.loopsFrom ·))) = true := by kernel_rfl
theorem CR_k17 : ((Rows.chartRangesRow.wideKeys == (Tryz.f9.params.toList ++ Rows.chartRangesSpec.plain.varTypes Tryz.pinned.checked.prog ++ Tryz.f9.resultTypes.toList).any (Tryz.pinned.checked.prog.wideKeysFrom ·))) = true := by kernel_rfl
theorem CR_k18 : (Rows.chartRangesSpec.vars.all (Tryz.pinned.checked.prog.varReadable ·)) = true := by kernel_rfl
theorem CR_k19 : (Tryz.f9.resultTypes.all (fun t => Tryz.pinned.checked.prog.readableRec t && decide (t < Tryz.pinned.checked.prog.types.size))) = true := by kernel_rfl
theorem CR_k20 : ((Rows.chartRangesRow.ifacesOut == Tryz.f9.resultTypes.toList.any (Tryz.pinned.checked.prog.ifacesRec ·))) = true := by kernel_rfl
theorem CR_k21 : ((Rows.chartRangesRow.loopsOut == Tryz.f9.resultTypes.toList.any (Tryz.pinned.checked.prog.loopsFrom ·))) = true := by kernel_rfl
theorem CR_k22 : ((Rows.chartRangesRow.plainKeys == Tryz.pinned.checked.prog.plainKeys)) = true := by kernel_rfl
theorem CR_k23 : (Rows.chartRangesRow.shortTexts.isNone) = true := by kernel_rfl
theorem CR_k24 : (Tryz.pinned.checked.prog.stopsHeard) = true := by kernel_rfl
theorem CR_k25 : (Tryz.pinned.checked.prog.mayEnter) = true := by kernel_rfl
theorem CR_k26 : ((Rows.chartRangesRow.lifted == Tryz.pinned.checked.prog.liftsFinal)) = true := by kernel_rfl
theorem CR_k27 : ((Tryz.pinned.checked.prog.make == some Rows.chartRangesRow.make)) = true := by kernel_rfl
theorem CR_k28 : ((Rows.chartRangesRow.kinds == (if Rows.chartRangesRow.domain.isEmpty then [] else Tryz.f9.params.toList.map fun t => match Tryz.pinned.checked.prog.underlying t with | some (.int k) => some k | _ => none))) = true := by kernel_rfl
theorem CR_k29 : ((Rows.chartRangesRow.pinned == Rows.chartRangesRow.pinnedBy)) = true := by kernel_rfl
theorem CR_k30 : ((Rows.chartRangesRow.veiled == (Tryz.f9.params.toList ++ Rows.chartRangesSpec.plain.varTypes Tryz.pinned.checked.prog ++ Tryz.f9.resultTypes.toList).any (Tryz.pinned.checked.prog.veiledRec ·))) = true := by kernel_rfl
theorem CR_k31 : (Rows.chartRangesRow.veiledFits Tryz.pinned.checked.prog Tryz.f9.params.toList (Tryz.f9.params.toList ++ Rows.chartRangesSpec.plain.varTypes Tryz.pinned.checked.prog ++ Tryz.f9.resultTypes.toList)) = true := by kernel_rfl
theorem CR_closed : joinedFacts Tryz.pinned.checked.prog 9 Tryz.f9 Rows.chartRangesSpec Rows.chartRangesRow = true := by
  unfold joinedFacts
  simp only [Bool.and_eq_true]
  exact ⟨⟨⟨⟨⟨⟨⟨⟨⟨⟨⟨⟨⟨⟨⟨⟨⟨⟨⟨⟨⟨⟨⟨⟨⟨⟨⟨⟨⟨⟨⟨CR_k0, CR_k1⟩, CR_k2⟩, CR_k3⟩, CR_k4⟩, CR_k5⟩, CR_k6⟩, CR_k7⟩, CR_k8⟩, CR_k9⟩, CR_k10⟩, CR_k11⟩, CR_k12⟩, CR_k13⟩, CR_k14⟩, CR_k15⟩, CR_k16⟩, CR_k17⟩, CR_k18⟩, CR_k19⟩, CR_k20⟩, CR_k21⟩, CR_k22⟩, CR_k23⟩, CR_k24⟩, CR_k25⟩, CR_k26⟩, CR_k27⟩, CR_k28⟩, CR_k29⟩, CR_k30⟩, CR_k31⟩
end Go.Proofs.YtgkfbembnlgahaaGreatDoor
