/- Part 33 of the proof of the statement that the last part names; it asks for no condition of its own. Here: RowTMc. -/
import Derived.Test.YtgkfbembnlgahaaGreatDoorRows
import Derived.JoinedOf
import Derived.KernelRfl
/- The closed facts of a row, one by one. -/
set_option maxRecDepth 100000
namespace Go.Proofs.YtgkfbembnlgahaaGreatDoor
open Go
theorem TM_k0 : (Rows.tablesMergesRow.wf (OpenSpec.ofChange Rows.tablesMergesSpec)) = true := by kernel_rfl
theorem TM_k1 : (laidOutB Tryz.pinned.checked.prog) = true := by kernel_rfl
theorem TM_k2 : (mapsRowed Tryz.pinned.checked.prog) = true := by kernel_rfl
theorem TM_k3 : (Tryz.f12.params.all (Tryz.pinned.checked.prog.readableRec ·)) = true := by kernel_rfl
theorem TM_k4 : (namedTie Tryz.pinned.checked.prog Rows.tablesMergesRow.named Rows.tablesMergesSpec.vars) = true := by kernel_rfl
theorem TM_k5 : ((Rows.tablesMergesRow.stops == [])) = true := by kernel_rfl
theorem TM_k6 : ((Tryz.pinned.checked.prog.stops == [])) = true := by kernel_rfl
theorem TM_k7 : ((Rows.tablesMergesRow.knobs == [])) = true := by kernel_rfl
theorem TM_k8 : ((Tryz.pinned.checked.prog.stopKnobs == [])) = true := by kernel_rfl
theorem TM_k9 : ((Rows.tablesMergesRow.inPlace == Tryz.pinned.checked.prog.inPlace 12)) = true := by kernel_rfl
theorem TM_k10 : ((Rows.tablesMergesRow.unfollowed == Tryz.pinned.checked.prog.unfollowed 12)) = true := by kernel_rfl
theorem TM_k11 : ((Rows.tablesMergesRow.recurses == Tryz.pinned.checked.prog.recurses 12)) = true := by kernel_rfl
theorem TM_k12 : ((Rows.tablesMergesRow.named == Tryz.pinned.checked.prog.varsNamed 12)) = true := by kernel_rfl
theorem TM_k13 : ((Rows.tablesMergesRow.maps == (Tryz.f12.params.toList ++ Rows.tablesMergesSpec.plain.varTypes Tryz.pinned.checked.prog).any (Tryz.pinned.checked.prog.mapsRec ·))) = true := by kernel_rfl
theorem TM_k14 : ((Rows.tablesMergesRow.ifaces == (Tryz.f12.params.toList ++ Rows.tablesMergesSpec.plain.varTypes Tryz.pinned.checked.prog).any (Tryz.pinned.checked.prog.ifacesRec ·))) = true := by kernel_rfl
theorem TM_k15 : ((Rows.tablesMergesRow.mapsOut == Tryz.pinned.checked.prog.mapsAmong Tryz.f12.resultTypes.toList)) = true := by kernel_rfl
theorem TM_k16 : ((Rows.tablesMergesRow.loops == (Tryz.f12.params.toList ++ Rows.tablesMergesSpec.plain.varTypes Tryz.pinned.checked.prog).any (Tryz.pinned.checked.prog.loopsFrom ·))) = true := by kernel_rfl
theorem TM_k17 : ((Rows.tablesMergesRow.wideKeys == (Tryz.f12.params.toList ++ Rows.tablesMergesSpec.plain.varTypes Tryz.pinned.checked.prog ++ Tryz.f12.resultTypes.toList).any (Tryz.pinned.checked.prog.wideKeysFrom ·))) = true := by kernel_rfl
theorem TM_k18 : (Rows.tablesMergesSpec.vars.all (Tryz.pinned.checked.prog.varReadable ·)) = true := by kernel_rfl
theorem TM_k19 : (Tryz.f12.resultTypes.all (fun t => Tryz.pinned.checked.prog.readableRec t && decide (t < Tryz.pinned.checked.prog.types.size))) = true := by kernel_rfl
theorem TM_k20 : ((Rows.tablesMergesRow.ifacesOut == Tryz.f12.resultTypes.toList.any (Tryz.pinned.checked.prog.ifacesRec ·))) = true := by kernel_rfl
theorem TM_k21 : ((Rows.tablesMergesRow.loopsOut == Tryz.f12.resultTypes.toList.any (Tryz.pinned.checked.prog.loopsFrom ·))) = true := by kernel_rfl
theorem TM_k22 : ((Rows.tablesMergesRow.plainKeys == Tryz.pinned.checked.prog.plainKeys)) = true := by kernel_rfl
theorem TM_k23 : (Rows.tablesMergesRow.shortTexts.isNone) = true := by kernel_rfl
theorem TM_k24 : (Tryz.pinned.checked.prog.stopsHeard) = true := by kernel_rfl
theorem TM_k25 : (Tryz.pinned.checked.prog.mayEnter) = true := by kernel_rfl
theorem TM_k26 : ((Rows.tablesMergesRow.lifted == Tryz.pinned.checked.prog.liftsFinal)) = true := by kernel_rfl
theorem TM_k27 : ((Tryz.pinned.checked.prog.make == some Rows.tablesMergesRow.make)) = true := by kernel_rfl
theorem TM_k28 : ((Rows.tablesMergesRow.kinds == (if Rows.tablesMergesRow.domain.isEmpty then [] else Tryz.f12.params.toList.map fun t => match Tryz.pinned.checked.prog.underlying t with | some (.int k) => some k | _ => none))) = true := by kernel_rfl
theorem TM_k29 : ((Rows.tablesMergesRow.pinned == Rows.tablesMergesRow.pinnedBy)) = true := by kernel_rfl
theorem TM_k30 : ((Rows.tablesMergesRow.veiled == (Tryz.f12.params.toList ++ Rows.tablesMergesSpec.plain.varTypes Tryz.pinned.checked.prog ++ Tryz.f12.resultTypes.toList).any (Tryz.pinned.checked.prog.veiledRec ·))) = true := by kernel_rfl
theorem TM_k31 : (Rows.tablesMergesRow.veiledFits Tryz.pinned.checked.prog Tryz.f12.params.toList (Tryz.f12.params.toList ++ Rows.tablesMergesSpec.plain.varTypes Tryz.pinned.checked.prog ++ Tryz.f12.resultTypes.toList)) = true := by kernel_rfl
theorem TM_closed : joinedFacts Tryz.pinned.checked.prog 12 Tryz.f12 Rows.tablesMergesSpec Rows.tablesMergesRow = true := by
  unfold joinedFacts
  simp only [Bool.and_eq_true]
  exact ⟨⟨⟨⟨⟨⟨⟨⟨⟨⟨⟨⟨⟨⟨⟨⟨⟨⟨⟨⟨⟨⟨⟨⟨⟨⟨⟨⟨⟨⟨⟨TM_k0, TM_k1⟩, TM_k2⟩, TM_k3⟩, TM_k4⟩, TM_k5⟩, TM_k6⟩, TM_k7⟩, TM_k8⟩, TM_k9⟩, TM_k10⟩, TM_k11⟩, TM_k12⟩, TM_k13⟩, TM_k14⟩, TM_k15⟩, TM_k16⟩, TM_k17⟩, TM_k18⟩, TM_k19⟩, TM_k20⟩, TM_k21⟩, TM_k22⟩, TM_k23⟩, TM_k24⟩, TM_k25⟩, TM_k26⟩, TM_k27⟩, TM_k28⟩, TM_k29⟩, TM_k30⟩, TM_k31⟩
end Go.Proofs.YtgkfbembnlgahaaGreatDoor
