/- Part 19 of the proof of the statement that the last part names; it asks for no condition of its own. Here: RowCGc. -/
import Derived.Test.YtgkfbembnlgahaaGreatDoorRows
import Derived.JoinedOf
import Derived.KernelRfl
/- The closed facts of a row, one by one. -/
set_option maxRecDepth 100000
namespace Go.Proofs.YtgkfbembnlgahaaGreatDoor
open Go
theorem CG_k0 : (Rows.chartGivenRow.wf (OpenSpec.ofChange Rows.chartGivenSpec)) = true := by kernel_rfl
theorem CG_k1 : (laidOutB Tryz.pinned.checked.prog) = true := by kernel_rfl
theorem CG_k2 : (mapsRowed Tryz.pinned.checked.prog) = true := by kernel_rfl
theorem CG_k3 : (Tryz.f11.params.all (Tryz.pinned.checked.prog.readableRec ·)) = true := by kernel_rfl
theorem CG_k4 : (namedTie Tryz.pinned.checked.prog Rows.chartGivenRow.named Rows.chartGivenSpec.vars) = true := by kernel_rfl
theorem CG_k5 : ((Rows.chartGivenRow.stops == [])) = true := by kernel_rfl
theorem CG_k6 : ((Tryz.pinned.checked.prog.stops == [])) = true := by kernel_rfl
theorem CG_k7 : ((Rows.chartGivenRow.knobs == [])) = true := by kernel_rfl
theorem CG_k8 : ((Tryz.pinned.checked.prog.stopKnobs == [])) = true := by kernel_rfl
theorem CG_k9 : ((Rows.chartGivenRow.inPlace == Tryz.pinned.checked.prog.inPlace 11)) = true := by kernel_rfl
theorem CG_k10 : ((Rows.chartGivenRow.unfollowed == Tryz.pinned.checked.prog.unfollowed 11)) = true := by kernel_rfl
theorem CG_k11 : ((Rows.chartGivenRow.recurses == Tryz.pinned.checked.prog.recurses 11)) = true := by kernel_rfl
theorem CG_k12 : ((Rows.chartGivenRow.named == Tryz.pinned.checked.prog.varsNamed 11)) = true := by kernel_rfl
theorem CG_k13 : ((Rows.chartGivenRow.maps == (Tryz.f11.params.toList ++ Rows.chartGivenSpec.plain.varTypes Tryz.pinned.checked.prog).any (Tryz.pinned.checked.prog.mapsRec ·))) = true := by kernel_rfl
theorem CG_k14 : ((Rows.chartGivenRow.ifaces == (Tryz.f11.params.toList ++ Rows.chartGivenSpec.plain.varTypes Tryz.pinned.checked.prog).any (Tryz.pinned.checked.prog.ifacesRec ·))) = true := by kernel_rfl
theorem CG_k15 : ((Rows.chartGivenRow.mapsOut == Tryz.pinned.checked.prog.mapsAmong Tryz.f11.resultTypes.toList)) = true := by kernel_rfl
theorem CG_k16 : ((Rows.chartGivenRow.loops == (Tryz.f11.params.toList ++ Rows.chartGivenSpec.plain.varTypes Tryz.pinned.checked.prog).any (Tryz.pinned.checked.prog.loopsFrom ·))) = true := by kernel_rfl
theorem CG_k17 : ((Rows.chartGivenRow.wideKeys == (Tryz.f11.params.toList ++ Rows.chartGivenSpec.plain.varTypes Tryz.pinned.checked.prog ++ Tryz.f11.resultTypes.toList).any (Tryz.pinned.checked.prog.wideKeysFrom ·))) = true := by kernel_rfl
theorem CG_k18 : (Rows.chartGivenSpec.vars.all (Tryz.pinned.checked.prog.varReadable ·)) = true := by kernel_rfl
theorem CG_k19 : (Tryz.f11.resultTypes.all (fun t => Tryz.pinned.checked.prog.readableRec t && decide (t < Tryz.pinned.checked.prog.types.size))) = true := by kernel_rfl
theorem CG_k20 : ((Rows.chartGivenRow.ifacesOut == Tryz.f11.resultTypes.toList.any (Tryz.pinned.checked.prog.ifacesRec ·))) = true := by kernel_rfl
theorem CG_k21 : ((Rows.chartGivenRow.loopsOut == Tryz.f11.resultTypes.toList.any (Tryz.pinned.checked.prog.loopsFrom ·))) = true := by kernel_rfl
theorem CG_k22 : ((Rows.chartGivenRow.plainKeys == Tryz.pinned.checked.prog.plainKeys)) = true := by kernel_rfl
theorem CG_k23 : (Rows.chartGivenRow.shortTexts.isNone) = true := by kernel_rfl
theorem CG_k24 : (Tryz.pinned.checked.prog.stopsHeard) = true := by kernel_rfl
theorem CG_k25 : (Tryz.pinned.checked.prog.mayEnter) = true := by kernel_rfl
theorem CG_k26 : ((Rows.chartGivenRow.lifted == Tryz.pinned.checked.prog.liftsFinal)) = true := by kernel_rfl
theorem CG_k27 : ((Tryz.pinned.checked.prog.make == some Rows.chartGivenRow.make)) = true := by kernel_rfl
theorem CG_k28 : ((Rows.chartGivenRow.kinds == (if Rows.chartGivenRow.domain.isEmpty then [] else Tryz.f11.params.toList.map fun t => match Tryz.pinned.checked.prog.underlying t with | some (.int k) => some k | _ => none))) = true := by kernel_rfl
theorem CG_k29 : ((Rows.chartGivenRow.pinned == Rows.chartGivenRow.pinnedBy)) = true := by kernel_rfl
theorem CG_k30 : ((Rows.chartGivenRow.veiled == (Tryz.f11.params.toList ++ Rows.chartGivenSpec.plain.varTypes Tryz.pinned.checked.prog ++ Tryz.f11.resultTypes.toList).any (Tryz.pinned.checked.prog.veiledRec ·))) = true := by kernel_rfl
theorem CG_k31 : (Rows.chartGivenRow.veiledFits Tryz.pinned.checked.prog Tryz.f11.params.toList (Tryz.f11.params.toList ++ Rows.chartGivenSpec.plain.varTypes Tryz.pinned.checked.prog ++ Tryz.f11.resultTypes.toList)) = true := by kernel_rfl
theorem CG_closed : joinedFacts Tryz.pinned.checked.prog 11 Tryz.f11 Rows.chartGivenSpec Rows.chartGivenRow = true := by
  unfold joinedFacts
  simp only [Bool.and_eq_true]
  exact ⟨⟨⟨⟨⟨⟨⟨⟨⟨⟨⟨⟨⟨⟨⟨⟨⟨⟨⟨⟨⟨⟨⟨⟨⟨⟨⟨⟨⟨⟨⟨CG_k0, CG_k1⟩, CG_k2⟩, CG_k3⟩, CG_k4⟩, CG_k5⟩, CG_k6⟩, CG_k7⟩, CG_k8⟩, CG_k9⟩, CG_k10⟩, CG_k11⟩, CG_k12⟩, CG_k13⟩, CG_k14⟩, CG_k15⟩, CG_k16⟩, CG_k17⟩, CG_k18⟩, CG_k19⟩, CG_k20⟩, CG_k21⟩, CG_k22⟩, CG_k23⟩, CG_k24⟩, CG_k25⟩, CG_k26⟩, CG_k27⟩, CG_k28⟩, CG_k29⟩, CG_k30⟩, CG_k31⟩
end Go.Proofs.YtgkfbembnlgahaaGreatDoor
