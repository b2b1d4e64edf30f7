/- Part 19 of the proof of the statement that the last part names; it asks for no condition of its own. Here: RowCDc. -/
import Derived.Test.YtgkfbembnlgahaaGreatDoorRows
import Derived.JoinedOf
import Derived.KernelRfl
/- The closed facts of a row, one by one. -/
set_option maxRecDepth 100000
namespace Go.Proofs.YtgkfbembnlgahaaGreatDoor
open Go
theorem CD_k0 : (Rows.chartDecompsRow.wf (OpenSpec.ofChange Rows.chartDecompsSpec)) = true := by kernel_rfl
theorem CD_k1 : (laidOutB Tryz.pinned.checked.prog) = true := by kernel_rfl
theorem CD_k2 : (mapsRowed Tryz.pinned.checked.prog) = true := by kernel_rfl
theorem CD_k3 : (Tryz.f10.params.all (Tryz.pinned.checked.prog.readableRec ·)) = true := by kernel_rfl
theorem CD_k4 : (namedTie Tryz.pinned.checked.prog Rows.chartDecompsRow.named Rows.chartDecompsSpec.vars) = true := by kernel_rfl
theorem CD_k5 : ((Rows.chartDecompsRow.stops == [])) = true := by kernel_rfl
theorem CD_k6 : ((Tryz.pinned.checked.prog.stops == [])) = true := by kernel_rfl
theorem CD_k7 : ((Rows.chartDecompsRow.knobs == [])) = true := by kernel_rfl
theorem CD_k8 : ((Tryz.pinned.checked.prog.stopKnobs == [])) = true := by kernel_rfl
theorem CD_k9 : ((Rows.chartDecompsRow.inPlace == Tryz.pinned.checked.prog.inPlace 10)) = true := by kernel_rfl
theorem CD_k10 : ((Rows.chartDecompsRow.unfollowed == Tryz.pinned.checked.prog.unfollowed 10)) = true := by kernel_rfl
theorem CD_k11 : ((Rows.chartDecompsRow.recurses == Tryz.pinned.checked.prog.recurses 10)) = true := by kernel_rfl
theorem CD_k12 : ((Rows.chartDecompsRow.named == Tryz.pinned.checked.prog.varsNamed 10)) = true := by kernel_rfl
theorem CD_k13 : ((Rows.chartDecompsRow.maps == (Tryz.f10.params.toList ++ Rows.chartDecompsSpec.plain.varTypes Tryz.pinned.checked.prog).any (Tryz.pinned.checked.prog.mapsRec ·))) = true := by kernel_rfl
theorem CD_k14 : ((Rows.chartDecompsRow.ifaces == (Tryz.f10.params.toList ++ Rows.chartDecompsSpec.plain.varTypes Tryz.pinned.checked.prog).any (Tryz.pinned.checked.prog.ifacesRec ·))) = true := by kernel_rfl
theorem CD_k15 : ((Rows.chartDecompsRow.mapsOut == Tryz.pinned.checked.prog.mapsAmong Tryz.f10.resultTypes.toList)) = true := by kernel_rfl
theorem CD_k16 : ((Rows.chartDecompsRow.loops == (Tryz.f10.params.toList ++ Rows.chartDecompsSpec.plain.varTypes Tryz.pinned.checked.prog).any (Tryz.pinned.checked.prog.loopsFrom ·))) = true := by kernel_rfl
theorem CD_k17 : ((Rows.chartDecompsRow.wideKeys == (Tryz.f10.params.toList ++ Rows.chartDecompsSpec.plain.varTypes Tryz.pinned.checked.prog ++ Tryz.f10.resultTypes.toList).any (Tryz.pinned.checked.prog.wideKeysFrom ·))) = true := by kernel_rfl
theorem CD_k18 : (Rows.chartDecompsSpec.vars.all (Tryz.pinned.checked.prog.varReadable ·)) = true := by kernel_rfl
theorem CD_k19 : (Tryz.f10.resultTypes.all (fun t => Tryz.pinned.checked.prog.readableRec t && decide (t < Tryz.pinned.checked.prog.types.size))) = true := by kernel_rfl
theorem CD_k20 : ((Rows.chartDecompsRow.ifacesOut == Tryz.f10.resultTypes.toList.any (Tryz.pinned.checked.prog.ifacesRec ·))) = true := by kernel_rfl
theorem CD_k21 : ((Rows.chartDecompsRow.loopsOut == Tryz.f10.resultTypes.toList.any (Tryz.pinned.checked.prog.loopsFrom ·))) = true := by kernel_rfl
theorem CD_k22 : ((Rows.chartDecompsRow.plainKeys == Tryz.pinned.checked.prog.plainKeys)) = true := by kernel_rfl
theorem CD_k23 : (Rows.chartDecompsRow.shortTexts.isNone) = true := by kernel_rfl
theorem CD_k24 : (Tryz.pinned.checked.prog.stopsHeard) = true := by kernel_rfl
theorem CD_k25 : (Tryz.pinned.checked.prog.mayEnter) = true := by kernel_rfl
theorem CD_k26 : ((Rows.chartDecompsRow.lifted == Tryz.pinned.checked.prog.liftsFinal)) = true := by kernel_rfl
theorem CD_k27 : ((Tryz.pinned.checked.prog.make == some Rows.chartDecompsRow.make)) = true := by kernel_rfl
theorem CD_k28 : ((Rows.chartDecompsRow.kinds == (if Rows.chartDecompsRow.domain.isEmpty then [] else Tryz.f10.params.toList.map fun t => match Tryz.pinned.checked.prog.underlying t with | some (.int k) => some k | _ => none))) = true := by kernel_rfl
theorem CD_k29 : ((Rows.chartDecompsRow.pinned == Rows.chartDecompsRow.pinnedBy)) = true := by kernel_rfl
theorem CD_k30 : ((Rows.chartDecompsRow.veiled == (Tryz.f10.params.toList ++ Rows.chartDecompsSpec.plain.varTypes Tryz.pinned.checked.prog ++ Tryz.f10.resultTypes.toList).any (Tryz.pinned.checked.prog.veiledRec ·))) = true := by kernel_rfl
theorem CD_k31 : (Rows.chartDecompsRow.veiledFits Tryz.pinned.checked.prog Tryz.f10.params.toList (Tryz.f10.params.toList ++ Rows.chartDecompsSpec.plain.varTypes Tryz.pinned.checked.prog ++ Tryz.f10.resultTypes.toList)) = true := by kernel_rfl
theorem CD_closed : joinedFacts Tryz.pinned.checked.prog 10 Tryz.f10 Rows.chartDecompsSpec Rows.chartDecompsRow = true := by
  unfold joinedFacts
  simp only [Bool.and_eq_true]
  exact ⟨⟨⟨⟨⟨⟨⟨⟨⟨⟨⟨⟨⟨⟨⟨⟨⟨⟨⟨⟨⟨⟨⟨⟨⟨⟨⟨⟨⟨⟨⟨CD_k0, CD_k1⟩, CD_k2⟩, CD_k3⟩, CD_k4⟩, CD_k5⟩, CD_k6⟩, CD_k7⟩, CD_k8⟩, CD_k9⟩, CD_k10⟩, CD_k11⟩, CD_k12⟩, CD_k13⟩, CD_k14⟩, CD_k15⟩, CD_k16⟩, CD_k17⟩, CD_k18⟩, CD_k19⟩, CD_k20⟩, CD_k21⟩, CD_k22⟩, CD_k23⟩, CD_k24⟩, CD_k25⟩, CD_k26⟩, CD_k27⟩, CD_k28⟩, CD_k29⟩, CD_k30⟩, CD_k31⟩
end Go.Proofs.YtgkfbembnlgahaaGreatDoor
