/- Part 18 of the proof of the statement that the last part names; it asks for no condition of its own. Here: RowCPc. -/
import Derived.Test.YtgkfbembnlgahaaDoorRows
import Derived.JoinedOf
import Derived.KernelRfl
set_option maxRecDepth 100000
namespace Go.Proofs.YtgkfbembnlgahaaDoor
open Go
theorem CP_k0 : (Rows.chartPointsRow.wf (OpenSpec.ofChange Rows.chartPointsSpec)) = true := by kernel_rfl
theorem CP_k1 : (laidOutB Tryd.pinned.checked.prog) = true := by kernel_rfl
theorem CP_k2 : (mapsRowed Tryd.pinned.checked.prog) = true := by kernel_rfl
theorem CP_k3 : (Tryd.f3.params.all (Tryd.pinned.checked.prog.readableRec ·)) = true := by kernel_rfl
theorem CP_k4 : (namedTie Tryd.pinned.checked.prog Rows.chartPointsRow.named Rows.chartPointsSpec.vars) = true := by kernel_rfl
theorem CP_k5 : ((Rows.chartPointsRow.stops == [])) = true := by kernel_rfl
theorem CP_k6 : ((Tryd.pinned.checked.prog.stops == [])) = true := by kernel_rfl
theorem CP_k7 : ((Rows.chartPointsRow.knobs == [])) = true := by kernel_rfl
theorem CP_k8 : ((Tryd.pinned.checked.prog.stopKnobs == [])) = true := by kernel_rfl
theorem CP_k9 : ((Rows.chartPointsRow.inPlace == Tryd.pinned.checked.prog.inPlace 3)) = true := by kernel_rfl
theorem CP_k10 : ((Rows.chartPointsRow.unfollowed == Tryd.pinned.checked.prog.unfollowed 3)) = true := by kernel_rfl
theorem CP_k11 : ((Rows.chartPointsRow.recurses == Tryd.pinned.checked.prog.recurses 3)) = true := by kernel_rfl
theorem CP_k12 : ((Rows.chartPointsRow.named == Tryd.pinned.checked.prog.varsNamed 3)) = true := by kernel_rfl
theorem CP_k13 : ((Rows.chartPointsRow.maps == (Tryd.f3.params.toList ++ Rows.chartPointsSpec.plain.varTypes Tryd.pinned.checked.prog).any (Tryd.pinned.checked.prog.mapsRec ·))) = true := by kernel_rfl
theorem CP_k14 : ((Rows.chartPointsRow.ifaces == (Tryd.f3.params.toList ++ Rows.chartPointsSpec.plain.varTypes Tryd.pinned.checked.prog).any (Tryd.pinned.checked.prog.ifacesRec ·))) = true := by kernel_rfl
theorem CP_k15 : ((Rows.chartPointsRow.mapsOut == Tryd.pinned.checked.prog.mapsAmong Tryd.f3.resultTypes.toList)) = true := by kernel_rfl
theorem CP_k16 : ((Rows.chartPointsRow.loops == (Tryd.f3.params.toList ++ Rows.chartPointsSpec.plain.varTypes Tryd.pinned.checked.prog).any (Tryd.pinned.checked.prog.loopsFrom ·))) = true := by kernel_rfl
theorem CP_k17 : ((Rows.chartPointsRow.wideKeys == (Tryd.f3.params.toList ++ Rows.chartPointsSpec.plain.varTypes Tryd.pinned.checked.prog ++ Tryd.f3.resultTypes.toList).any (Tryd.pinned.checked.prog.wideKeysFrom ·))) = true := by kernel_rfl
theorem CP_k18 : (Rows.chartPointsSpec.vars.all (Tryd.pinned.checked.prog.varReadable ·)) = true := by kernel_rfl
theorem CP_k19 : (Tryd.f3.resultTypes.all (fun t => Tryd.pinned.checked.prog.readableRec t && decide (t < Tryd.pinned.checked.prog.types.size))) = true := by kernel_rfl
theorem CP_k20 : ((Rows.chartPointsRow.ifacesOut == Tryd.f3.resultTypes.toList.any (Tryd.pinned.checked.prog.ifacesRec ·))) = true := by kernel_rfl
theorem CP_k21 : ((Rows.chartPointsRow.loopsOut == Tryd.f3.resultTypes.toList.any (Tryd.pinned.checked.prog.loopsFrom ·))) = true := by kernel_rfl
theorem CP_k22 : ((Rows.chartPointsRow.plainKeys == Tryd.pinned.checked.prog.plainKeys)) = true := by kernel_rfl
theorem CP_k23 : (Rows.chartPointsRow.shortTexts.isNone) = true := by kernel_rfl
theorem CP_k24 : (Tryd.pinned.checked.prog.stopsHeard) = true := by kernel_rfl
theorem CP_k25 : (Tryd.pinned.checked.prog.mayEnter) = true := by kernel_rfl
theorem CP_k26 : ((Rows.chartPointsRow.lifted == Tryd.pinned.checked.prog.liftsFinal)) = true := by kernel_rfl
theorem CP_k27 : ((Tryd.pinned.checked.prog.make == some Rows.chartPointsRow.make)) = true := by kernel_rfl
theorem CP_k28 : ((Rows.chartPointsRow.kinds == (if Rows.chartPointsRow.domain.isEmpty then [] else Tryd.f3.params.toList.map fun t => match Tryd.pinned.checked.prog.underlying t with | some (.int k) => some k | _ => none))) = true := by kernel_rfl
theorem CP_k29 : ((Rows.chartPointsRow.pinned == Rows.chartPointsRow.pinnedBy)) = true := by kernel_rfl
theorem CP_k30 : ((Rows.chartPointsRow.veiled == (Tryd.f3.params.toList ++ Rows.chartPointsSpec.plain.varTypes Tryd.pinned.checked.prog ++ Tryd.f3.resultTypes.toList).any (Tryd.pinned.checked.prog.veiledRec ·))) = true := by kernel_rfl
theorem CP_k31 : (Rows.chartPointsRow.veiledFits Tryd.pinned.checked.prog Tryd.f3.params.toList (Tryd.f3.params.toList ++ Rows.chartPointsSpec.plain.varTypes Tryd.pinned.checked.prog ++ Tryd.f3.resultTypes.toList)) = true := by kernel_rfl
theorem CP_closed : joinedFacts Tryd.pinned.checked.prog 3 Tryd.f3 Rows.chartPointsSpec Rows.chartPointsRow = true := by
  unfold joinedFacts
  simp only [Bool.and_eq_true]
  exact ⟨⟨⟨⟨⟨⟨⟨⟨⟨⟨⟨⟨⟨⟨⟨⟨⟨⟨⟨⟨⟨⟨⟨⟨⟨⟨⟨⟨⟨⟨⟨CP_k0, CP_k1⟩, CP_k2⟩, CP_k3⟩, CP_k4⟩, CP_k5⟩, CP_k6⟩, CP_k7⟩, CP_k8⟩, CP_k9⟩, CP_k10⟩, CP_k11⟩, CP_k12⟩, CP_k13⟩, CP_k14⟩, CP_k15⟩, CP_k16⟩, CP_k17⟩, CP_k18⟩, CP_k19⟩, CP_k20⟩, CP_k21⟩, CP_k22⟩, CP_k23⟩, CP_k24⟩, CP_k25⟩, CP_k26⟩, CP_k27⟩, CP_k28⟩, CP_k29⟩, CP_k30⟩, CP_k31⟩
end Go.Proofs.YtgkfbembnlgahaaDoor
