/- Part 19 of the proof of the statement that the last part names; it asks for no condition of its own. Here: RowTPc. -/
import Derived.Test.YtgkfbembnlgahaaGreatDoorRows
import Derived.JoinedOf
import Derived.KernelRfl
/- The closed facts of a row, one by one. -/
set_option maxRecDepth 100000
namespace Go.Proofs.YtgkfbembnlgahaaGreatDoor
open Go
theorem TP_k0 : (Rows.tablesPairsRow.wf (OpenSpec.ofChange Rows.tablesPairsSpec)) = true := by kernel_rfl
theorem TP_k1 : (laidOutB Tryz.pinned.checked.prog) = true := by kernel_rfl
theorem TP_k2 : (mapsRowed Tryz.pinned.checked.prog) = true := by kernel_rfl
theorem TP_k3 : (Tryz.f4.params.all (Tryz.pinned.checked.prog.readableRec ·)) = true := by kernel_rfl
theorem TP_k4 : (namedTie Tryz.pinned.checked.prog Rows.tablesPairsRow.named Rows.tablesPairsSpec.vars) = true := by kernel_rfl
theorem TP_k5 : ((Rows.tablesPairsRow.stops == [])) = true := by kernel_rfl
theorem TP_k6 : ((Tryz.pinned.checked.prog.stops == [])) = true := by kernel_rfl
theorem TP_k7 : ((Rows.tablesPairsRow.knobs == [])) = true := by kernel_rfl
theorem TP_k8 : ((Tryz.pinned.checked.prog.stopKnobs == [])) = true := by kernel_rfl
theorem TP_k9 : ((Rows.tablesPairsRow.inPlace == Tryz.pinned.checked.prog.inPlace 4)) = true := by kernel_rfl
theorem TP_k10 : ((Rows.tablesPairsRow.unfollowed == Tryz.pinned.checked.prog.unfollowed 4)) = true := by kernel_rfl
theorem TP_k11 : ((Rows.tablesPairsRow.recurses == Tryz.pinned.checked.prog.recurses 4)) = true := by kernel_rfl
theorem TP_k12 : ((Rows.tablesPairsRow.named == Tryz.pinned.checked.prog.varsNamed 4)) = true := by kernel_rfl
theorem TP_k13 : ((Rows.tablesPairsRow.maps == (Tryz.f4.params.toList ++ Rows.tablesPairsSpec.plain.varTypes Tryz.pinned.checked.prog).any (Tryz.pinned.checked.prog.mapsRec ·))) = true := by kernel_rfl
theorem TP_k14 : ((Rows.tablesPairsRow.ifaces == (Tryz.f4.params.toList ++ Rows.tablesPairsSpec.plain.varTypes Tryz.pinned.checked.prog).any (Tryz.pinned.checked.prog.ifacesRec ·))) = true := by kernel_rfl
theorem TP_k15 : ((Rows.tablesPairsRow.mapsOut == Tryz.pinned.checked.prog.mapsAmong Tryz.f4.resultTypes.toList)) = true := by kernel_rfl
theorem TP_k16 : ((Rows.tablesPairsRow.loops == (Tryz.f4.params.toList ++ Rows.tablesPairsSpec.plain.varTypes Tryz.pinned.checked.prog).any (Tryz.pinned.checked.prog.loopsFrom ·))) = true := by kernel_rfl
theorem TP_k17 : ((Rows.tablesPairsRow.wideKeys == (Tryz.f4.params.toList ++ Rows.tablesPairsSpec.plain.varTypes Tryz.pinned.checked.prog ++ Tryz.f4.resultTypes.toList).any (Tryz.pinned.checked.prog.wideKeysFrom ·))) = true := by kernel_rfl
theorem TP_k18 : (Rows.tablesPairsSpec.vars.all (Tryz.pinned.checked.prog.varReadable ·)) = true := by kernel_rfl
theorem TP_k19 : (Tryz.f4.resultTypes.all (fun t => Tryz.pinned.checked.prog.readableRec t && decide (t < Tryz.pinned.checked.prog.types.size))) = true := by kernel_rfl
theorem TP_k20 : ((Rows.tablesPairsRow.ifacesOut == Tryz.f4.resultTypes.toList.any (Tryz.pinned.checked.prog.ifacesRec ·))) = true := by kernel_rfl
theorem TP_k21 : ((Rows.tablesPairsRow.loopsOut == Tryz.f4.resultTypes.toList.any (Tryz.pinned.checked.prog.loopsFrom ·))) = true := by kernel_rfl
theorem TP_k22 : ((Rows.tablesPairsRow.plainKeys == Tryz.pinned.checked.prog.plainKeys)) = true := by kernel_rfl
theorem TP_k23 : (Rows.tablesPairsRow.shortTexts.isNone) = true := by kernel_rfl
theorem TP_k24 : (Tryz.pinned.checked.prog.stopsHeard) = true := by kernel_rfl
theorem TP_k25 : (Tryz.pinned.checked.prog.mayEnter) = true := by kernel_rfl
theorem TP_k26 : ((Rows.tablesPairsRow.lifted == Tryz.pinned.checked.prog.liftsFinal)) = true := by kernel_rfl
theorem TP_k27 : ((Tryz.pinned.checked.prog.make == some Rows.tablesPairsRow.make)) = true := by kernel_rfl
theorem TP_k28 : ((Rows.tablesPairsRow.kinds == (if Rows.tablesPairsRow.domain.isEmpty then [] else Tryz.f4.params.toList.map fun t => match Tryz.pinned.checked.prog.underlying t with | some (.int k) => some k | _ => none))) = true := by kernel_rfl
theorem TP_k29 : ((Rows.tablesPairsRow.pinned == Rows.tablesPairsRow.pinnedBy)) = true := by kernel_rfl
theorem TP_k30 : ((Rows.tablesPairsRow.veiled == (Tryz.f4.params.toList ++ Rows.tablesPairsSpec.plain.varTypes Tryz.pinned.checked.prog ++ Tryz.f4.resultTypes.toList).any (Tryz.pinned.checked.prog.veiledRec ·))) = true := by kernel_rfl
theorem TP_k31 : (Rows.tablesPairsRow.veiledFits Tryz.pinned.checked.prog Tryz.f4.params.toList (Tryz.f4.params.toList ++ Rows.tablesPairsSpec.plain.varTypes Tryz.pinned.checked.prog ++ Tryz.f4.resultTypes.toList)) = true := by kernel_rfl
theorem TP_closed : joinedFacts Tryz.pinned.checked.prog 4 Tryz.f4 Rows.tablesPairsSpec Rows.tablesPairsRow = true := by
  unfold joinedFacts
  simp only [Bool.and_eq_true]
  exact ⟨⟨⟨⟨⟨⟨⟨⟨⟨⟨⟨⟨⟨⟨⟨⟨⟨⟨⟨⟨⟨⟨⟨⟨⟨⟨⟨⟨⟨⟨⟨TP_k0, TP_k1⟩, TP_k2⟩, TP_k3⟩, TP_k4⟩, TP_k5⟩, TP_k6⟩, TP_k7⟩, TP_k8⟩, TP_k9⟩, TP_k10⟩, TP_k11⟩, TP_k12⟩, TP_k13⟩, TP_k14⟩, TP_k15⟩, TP_k16⟩, TP_k17⟩, TP_k18⟩, TP_k19⟩, TP_k20⟩, TP_k21⟩, TP_k22⟩, TP_k23⟩, TP_k24⟩, TP_k25⟩, TP_k26⟩, TP_k27⟩, TP_k28⟩, TP_k29⟩, TP_k30⟩, TP_k31⟩
end Go.Proofs.YtgkfbembnlgahaaGreatDoor
