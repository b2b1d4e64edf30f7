/- Part 21 of the proof of the statement that the last part names; it asks for no condition of its own. Here: CardCR. -/
import Derived.Test.YtgkfbembnlgahaaGreatDoorQat
import Derived.Test.YtgkfbembnlgahaaGreatDoorTie
import Derived.Test.YtgkfbembnlgahaaGreatDoorCards
import Derived.SevenTiedAt
/- The tied card of ChartRanges, out of its row. -/
set_option maxRecDepth 100000
namespace Go.Proofs.YtgkfbembnlgahaaGreatDoor
open Go Go.Sx Go.Tx
theorem CR_w : Rows.chartRangesRow.wfByText (OpenSpec.ofChange Rows.chartRangesSpec) = true := by kernel_rfl
theorem CR_m : Tryz.pinned.checked.prog.mainIs = some (true, "b8cebc40c63b5fe798bf40e4c9e0b599aa93089535e704d581b0d8c3128bde50".toList) := by kernel_rfl
theorem CR_l : true = Tryz.pinned.checked.prog.looks [] := by kernel_rfl
theorem CR_n : Tryz.prog.funcNamed "sabretache/sabretachelaw07.ChartRanges" = some 9 := by kernel_rfl
theorem CR_g : false = Rows.chartRangesRow.goesBy Tryz.pinned.checked.prog := by kernel_rfl
theorem CR_s : Tryz.prog.wantsStandIn 9 = false := by kernel_rfl
theorem CR_card (h : Rows.ChartRangesSaid) : Rows.ChartRangesCardSaid :=
  Claim7.holds_tied_plain_at .later [] [.data, .data, .data, .data, .sentinel, .sentinel, .pinned, .pinned] true (true, "b8cebc40c63b5fe798bf40e4c9e0b599aa93089535e704d581b0d8c3128bde50") true
    h (fun _ h => by cases h) CR_w (fun _ h => by cases h) chartRanges_row_tie rfl ⟨rfl, rfl⟩ CR_m rfl
    (fun f fn hf hfn => by
      obtain rfl : f = 9 := Option.some.inj (CR_n.symm.trans hf) |>.symm
      obtain rfl : fn = Tryz.f9 := (Option.some.inj (Tryz.func9.symm.trans hfn)).symm
      exact ⟨CR_l, fun j t ht => by
        rw [Tryz.params9] at ht
        have h3 : t = 9 := by
          rcases j with _ | j
          · simpa using ht.symm
          · simp at ht
        subst h3
        exact CR_s⟩)
    CR_g
end Go.Proofs.YtgkfbembnlgahaaGreatDoor
