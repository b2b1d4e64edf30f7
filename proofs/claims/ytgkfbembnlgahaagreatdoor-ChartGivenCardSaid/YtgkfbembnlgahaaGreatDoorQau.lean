/- Part 21 of the proof of the statement that the last part names; it asks for no condition of its own. Here: CardCG. -/
import Derived.Test.YtgkfbembnlgahaaGreatDoorQat
import Derived.Test.YtgkfbembnlgahaaGreatDoorTie
import Derived.Test.YtgkfbembnlgahaaGreatDoorCards
import Derived.SevenTiedAt
/- The tied card of ChartGiven, out of its row. -/
set_option maxRecDepth 100000
namespace Go.Proofs.YtgkfbembnlgahaaGreatDoor
open Go Go.Sx Go.Tx
theorem CG_w : Rows.chartGivenRow.wfByText (OpenSpec.ofChange Rows.chartGivenSpec) = true := by kernel_rfl
theorem CG_m : Tryz.pinned.checked.prog.mainIs = some (true, "b8cebc40c63b5fe798bf40e4c9e0b599aa93089535e704d581b0d8c3128bde50".toList) := by kernel_rfl
theorem CG_l : true = Tryz.pinned.checked.prog.looks [] := by kernel_rfl
theorem CG_n : Tryz.prog.funcNamed "sabretache/sabretachelaw07.ChartGiven" = some 11 := by kernel_rfl
theorem CG_g : false = Rows.chartGivenRow.goesBy Tryz.pinned.checked.prog := by kernel_rfl
theorem CG_s : Tryz.prog.wantsStandIn 23 = false := by kernel_rfl
theorem CG_card (h : Rows.ChartGivenSaid) : Rows.ChartGivenCardSaid :=
  Claim7.holds_tied_plain_at .later [] [.data, .data, .data, .data, .sentinel, .sentinel, .pinned, .pinned] true (true, "b8cebc40c63b5fe798bf40e4c9e0b599aa93089535e704d581b0d8c3128bde50") true
    h (fun _ h => by cases h) CG_w (fun _ h => by cases h) chartGiven_row_tie rfl ⟨rfl, rfl⟩ CG_m rfl
    (fun f fn hf hfn => by
      obtain rfl : f = 11 := Option.some.inj (CG_n.symm.trans hf) |>.symm
      obtain rfl : fn = Tryz.f11 := (Option.some.inj (Tryz.func11.symm.trans hfn)).symm
      exact ⟨CG_l, fun j t ht => by
        rw [Tryz.params11] at ht
        have h3 : t = 23 := by
          rcases j with _ | j
          · simpa using ht.symm
          · simp at ht
        subst h3
        exact CG_s⟩)
    CG_g
end Go.Proofs.YtgkfbembnlgahaaGreatDoor
