/- Part 46 of the proof of the statement that the last part names; it asks for no condition of its own. Here: RowTSc. -/
import Derived.Test.YtgkfbembnlgahaaGreatDoorRows
import Derived.JoinedOf
import Derived.KernelRfl
set_option maxRecDepth 100000
namespace Go.Proofs.YtgkfbembnlgahaaGreatDoor
open Go
theorem TS_k0 : (Rows.tablesSpansRow.wf (OpenSpec.ofChange Rows.tablesSpansSpec)) = true := by kernel_rfl
theorem TS_k1 : (laidOutB Tryz.pinned.checked.prog) = true := by kernel_rfl
theorem TS_k2 : (mapsRowed Tryz.pinned.checked.prog) = true := by kernel_rfl
theorem TS_k3 : (Tryz.f13.params.all (Tryz.pinned.checked.prog.readableRec ·)) = true := by kernel_rfl
theorem TS_k4 : (namedTie Tryz.pinned.checked.prog Rows.tablesSpansRow.named Rows.tablesSpansSpec.vars) = true := by kernel_rfl
theorem TS_k5 : ((Rows.tablesSpansRow.stops == [])) = true := by kernel_rfl
theorem TS_k6 : ((Tryz.pinned.checked.prog.stops == [])) = true := by kernel_rfl
theorem TS_k7 : ((Rows.tablesSpansRow.knobs == [])) = true := by kernel_rfl
theorem TS_k8 : ((Tryz.pinned.checked.prog.stopKnobs == [])) = true := by kernel_rfl
theorem TS_k9 : ((Rows.tablesSpansRow.inPlace == Tryz.pinned.checked.prog.inPlace 13)) = true := by kernel_rfl
theorem TS_k10 : ((Rows.tablesSpansRow.unfollowed == Tryz.pinned.checked.prog.unfollowed 13)) = true := by kernel_rfl
theorem TS_k11 : ((Rows.tablesSpansRow.recurses == Tryz.pinned.checked.prog.recurses 13)) = true := by kernel_rfl
theorem TS_k12 : ((Rows.tablesSpansRow.named == Tryz.pinned.checked.prog.varsNamed 13)) = true := by kernel_rfl
theorem TS_k13 : ((Rows.tablesSpansRow.maps == (Tryz.f13.params.toList ++ Rows.tablesSpansSpec.plain.varTypes Tryz.pinned.checked.prog).any (Tryz.pinned.checked.prog.mapsRec ·))) = true := by kernel_rfl
theorem TS_k14 : ((Rows.tablesSpansRow.ifaces == (Tryz.f13.params.toList ++ Rows.tablesSpansSpec.plain.varTypes Tryz.pinned.checked.prog).any (Tryz.pinned.checked.prog.ifacesRec ·))) = true := by kernel_rfl
theorem TS_k15 : ((Rows.tablesSpansRow.mapsOut == Tryz.pinned.checked.prog.mapsAmong Tryz.f13.resultTypes.toList)) = true := by kernel_rfl
theorem TS_k16 : ((Rows.tablesSpansRow.loops == (Tryz.f13.params.toList ++ Rows.tablesSpansSpec.plain.varTypes Tryz.pinned.checked.prog).any (Tryz.pinned.checked.prog.loopsFrom ·))) = true := by kernel_rfl
theorem TS_k17 : ((Rows.tablesSpansRow.wideKeys == (Tryz.f13.params.toList ++ Rows.tablesSpansSpec.plain.varTypes Tryz.pinned.checked.prog ++ Tryz.f13.resultTypes.toList).any (Tryz.pinned.checked.prog.wideKeysFrom ·))) = true := by kernel_rfl
theorem TS_k18 : (Rows.tablesSpansSpec.vars.all (Tryz.pinned.checked.prog.varReadable ·)) = true := by kernel_rfl
theorem TS_k19 : (Tryz.f13.resultTypes.all (fun t => Tryz.pinned.checked.prog.readableRec t && decide (t < Tryz.pinned.checked.prog.types.size))) = true := by kernel_rfl
theorem TS_k20 : ((Rows.tablesSpansRow.ifacesOut == Tryz.f13.resultTypes.toList.any (Tryz.pinned.checked.prog.ifacesRec ·))) = true := by kernel_rfl
theorem TS_k21 : ((Rows.tablesSpansRow.loopsOut == Tryz.f13.resultTypes.toList.any (Tryz.pinned.checked.prog.loopsFrom ·))) = true := by kernel_rfl
theorem TS_k22 : ((Rows.tablesSpansRow.plainKeys == Tryz.pinned.checked.prog.plainKeys)) = true := by kernel_rfl
theorem TS_k23 : (Rows.tablesSpansRow.shortTexts.isNone) = true := by kernel_rfl
theorem TS_k24 : (Tryz.pinned.checked.prog.stopsHeard) = true := by kernel_rfl
theorem TS_k25 : (Tryz.pinned.checked.prog.mayEnter) = true := by kernel_rfl
theorem TS_k26 : ((Rows.tablesSpansRow.lifted == Tryz.pinned.checked.prog.liftsFinal)) = true := by kernel_rfl
theorem TS_k27 : ((Tryz.pinned.checked.prog.make == some Rows.tablesSpansRow.make)) = true := by kernel_rfl
theorem TS_k28 : ((Rows.tablesSpansRow.kinds == (if Rows.tablesSpansRow.domain.isEmpty then [] else Tryz.f13.params.toList.map fun t => match Tryz.pinned.checked.prog.underlying t with | some (.int k) => some k | _ => none))) = true := by kernel_rfl
theorem TS_k29 : ((Rows.tablesSpansRow.pinned == Rows.tablesSpansRow.pinnedBy)) = true := by kernel_rfl
theorem TS_k30 : ((Rows.tablesSpansRow.veiled == (Tryz.f13.params.toList ++ Rows.tablesSpansSpec.plain.varTypes Tryz.pinned.checked.prog ++ Tryz.f13.resultTypes.toList).any (Tryz.pinned.checked.prog.veiledRec ·))) = true := by kernel_rfl
theorem TS_k31 : (Rows.tablesSpansRow.veiledFits Tryz.pinned.checked.prog Tryz.f13.params.toList (Tryz.f13.params.toList ++ Rows.tablesSpansSpec.plain.varTypes Tryz.pinned.checked.prog ++ Tryz.f13.resultTypes.toList)) = true := by kernel_rfl
theorem TS_closed : joinedFacts Tryz.pinned.checked.prog 13 Tryz.f13 Rows.tablesSpansSpec Rows.tablesSpansRow = true := by
  unfold joinedFacts
  simp only [Bool.and_eq_true]
  exact ⟨⟨⟨⟨⟨⟨⟨⟨⟨⟨⟨⟨⟨⟨⟨⟨⟨⟨⟨⟨⟨⟨⟨⟨⟨⟨⟨⟨⟨⟨⟨TS_k0, TS_k1⟩, TS_k2⟩, TS_k3⟩, TS_k4⟩, TS_k5⟩, TS_k6⟩, TS_k7⟩, TS_k8⟩, TS_k9⟩, TS_k10⟩, TS_k11⟩, TS_k12⟩, TS_k13⟩, TS_k14⟩, TS_k15⟩, TS_k16⟩, TS_k17⟩, TS_k18⟩, TS_k19⟩, TS_k20⟩, TS_k21⟩, TS_k22⟩, TS_k23⟩, TS_k24⟩, TS_k25⟩, TS_k26⟩, TS_k27⟩, TS_k28⟩, TS_k29⟩, TS_k30⟩, TS_k31⟩
end Go.Proofs.YtgkfbembnlgahaaGreatDoor
