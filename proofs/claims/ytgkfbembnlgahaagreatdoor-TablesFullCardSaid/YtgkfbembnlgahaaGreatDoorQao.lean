/- Part 15 of the proof of the statement that the last part names; it asks for no condition of its own. Here: RowTFc. -/
import Derived.Test.YtgkfbembnlgahaaGreatDoorRows
import Derived.JoinedOf
import Derived.KernelRfl
/- The closed facts of a row, one by one. -/
set_option maxRecDepth 100000
namespace Go.Proofs.YtgkfbembnlgahaaGreatDoor
open Go
theorem TF_k0 : (Rows.tablesFullRow.wf (OpenSpec.ofChange Rows.tablesFullSpec)) = true := by kernel_rfl
theorem TF_k1 : (laidOutB Tryz.pinned.checked.prog) = true := by kernel_rfl
theorem TF_k2 : (mapsRowed Tryz.pinned.checked.prog) = true := by kernel_rfl
theorem TF_k3 : (Tryz.f3.params.all (Tryz.pinned.checked.prog.readableRec ·)) = true := by kernel_rfl
theorem TF_k4 : (namedTie Tryz.pinned.checked.prog Rows.tablesFullRow.named Rows.tablesFullSpec.vars) = true := by kernel_rfl
theorem TF_k5 : ((Rows.tablesFullRow.stops == [])) = true := by kernel_rfl
theorem TF_k6 : ((Tryz.pinned.checked.prog.stops == [])) = true := by kernel_rfl
theorem TF_k7 : ((Rows.tablesFullRow.knobs == [])) = true := by kernel_rfl
theorem TF_k8 : ((Tryz.pinned.checked.prog.stopKnobs == [])) = true := by kernel_rfl
theorem TF_k9 : ((Rows.tablesFullRow.inPlace == Tryz.pinned.checked.prog.inPlace 3)) = true := by kernel_rfl
theorem TF_k10 : ((Rows.tablesFullRow.unfollowed == Tryz.pinned.checked.prog.unfollowed 3)) = true := by kernel_rfl
theorem TF_k11 : ((Rows.tablesFullRow.recurses == Tryz.pinned.checked.prog.recurses 3)) = true := by kernel_rfl
theorem TF_k12 : ((Rows.tablesFullRow.named == Tryz.pinned.checked.prog.varsNamed 3)) = true := by kernel_rfl
theorem TF_k13 : ((Rows.tablesFullRow.maps == (Tryz.f3.params.toList ++ Rows.tablesFullSpec.plain.varTypes Tryz.pinned.checked.prog).any (Tryz.pinned.checked.prog.mapsRec ·))) = true := by kernel_rfl
theorem TF_k14 : ((Rows.tablesFullRow.ifaces == (Tryz.f3.params.toList ++ Rows.tablesFullSpec.plain.varTypes Tryz.pinned.checked.prog).any (Tryz.pinned.checked.prog.ifacesRec ·))) = true := by kernel_rfl
theorem TF_k15 : ((Rows.tablesFullRow.mapsOut == Tryz.pinned.checked.prog.mapsAmong Tryz.f3.resultTypes.toList)) = true := by kernel_rfl
theorem TF_k16 : ((Rows.tablesFullRow.loops == (Tryz.f3.params.toList ++ Rows.tablesFullSpec.plain.varTypes Tryz.pinned.checked.prog).any (Tryz.pinned.checked.prog.loopsFrom ·))) = true := by kernel_rfl
theorem TF_k17 : ((Rows.tablesFullRow.wideKeys == (Tryz.f3.params.toList ++ Rows.tablesFullSpec.plain.varTypes Tryz.pinned.checked.prog ++ Tryz.f3.resultTypes.toList).any (Tryz.pinned.checked.prog.wideKeysFrom ·))) = true := by kernel_rfl
theorem TF_k18 : (Rows.tablesFullSpec.vars.all (Tryz.pinned.checked.prog.varReadable ·)) = true := by kernel_rfl
theorem TF_k19 : (Tryz.f3.resultTypes.all (fun t => Tryz.pinned.checked.prog.readableRec t && decide (t < Tryz.pinned.checked.prog.types.size))) = true := by kernel_rfl
theorem TF_k20 : ((Rows.tablesFullRow.ifacesOut == Tryz.f3.resultTypes.toList.any (Tryz.pinned.checked.prog.ifacesRec ·))) = true := by kernel_rfl
theorem TF_k21 : ((Rows.tablesFullRow.loopsOut == Tryz.f3.resultTypes.toList.any (Tryz.pinned.checked.prog.loopsFrom ·))) = true := by kernel_rfl
theorem TF_k22 : ((Rows.tablesFullRow.plainKeys == Tryz.pinned.checked.prog.plainKeys)) = true := by kernel_rfl
theorem TF_k23 : (Rows.tablesFullRow.shortTexts.isNone) = true := by kernel_rfl
theorem TF_k24 : (Tryz.pinned.checked.prog.stopsHeard) = true := by kernel_rfl
theorem TF_k25 : (Tryz.pinned.checked.prog.mayEnter) = true := by kernel_rfl
theorem TF_k26 : ((Rows.tablesFullRow.lifted == Tryz.pinned.checked.prog.liftsFinal)) = true := by kernel_rfl
theorem TF_k27 : ((Tryz.pinned.checked.prog.make == some Rows.tablesFullRow.make)) = true := by kernel_rfl
theorem TF_k28 : ((Rows.tablesFullRow.kinds == (if Rows.tablesFullRow.domain.isEmpty then [] else Tryz.f3.params.toList.map fun t => match Tryz.pinned.checked.prog.underlying t with | some (.int k) => some k | _ => none))) = true := by kernel_rfl
theorem TF_k29 : ((Rows.tablesFullRow.pinned == Rows.tablesFullRow.pinnedBy)) = true := by kernel_rfl
theorem TF_k30 : ((Rows.tablesFullRow.veiled == (Tryz.f3.params.toList ++ Rows.tablesFullSpec.plain.varTypes Tryz.pinned.checked.prog ++ Tryz.f3.resultTypes.toList).any (Tryz.pinned.checked.prog.veiledRec ·))) = true := by kernel_rfl
theorem TF_k31 : (Rows.tablesFullRow.veiledFits Tryz.pinned.checked.prog Tryz.f3.params.toList (Tryz.f3.params.toList ++ Rows.tablesFullSpec.plain.varTypes Tryz.pinned.checked.prog ++ Tryz.f3.resultTypes.toList)) = true := by kernel_rfl
theorem TF_closed : joinedFacts Tryz.pinned.checked.prog 3 Tryz.f3 Rows.tablesFullSpec Rows.tablesFullRow = true := by
  unfold joinedFacts
  simp only [Bool.and_eq_true]
  exact ⟨⟨⟨⟨⟨⟨⟨⟨⟨⟨⟨⟨⟨⟨⟨⟨⟨⟨⟨⟨⟨⟨⟨⟨⟨⟨⟨⟨⟨⟨⟨TF_k0, TF_k1⟩, TF_k2⟩, TF_k3⟩, TF_k4⟩, TF_k5⟩, TF_k6⟩, TF_k7⟩, TF_k8⟩, TF_k9⟩, TF_k10⟩, TF_k11⟩, TF_k12⟩, TF_k13⟩, TF_k14⟩, TF_k15⟩, TF_k16⟩, TF_k17⟩, TF_k18⟩, TF_k19⟩, TF_k20⟩, TF_k21⟩, TF_k22⟩, TF_k23⟩, TF_k24⟩, TF_k25⟩, TF_k26⟩, TF_k27⟩, TF_k28⟩, TF_k29⟩, TF_k30⟩, TF_k31⟩
end Go.Proofs.YtgkfbembnlgahaaGreatDoor
