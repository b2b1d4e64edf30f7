/- Part 21 of the proof of the statement that the last part names; it asks for no condition of its own. Here: CardCC. -/
import Derived.Test.YtgkfbembnlgahaaGreatDoorQat
import Derived.Test.YtgkfbembnlgahaaGreatDoorTie
import Derived.Test.YtgkfbembnlgahaaGreatDoorCards
import Derived.SevenTiedAt
/- The tied card of ChartClasses, out of its row. -/
set_option maxRecDepth 100000
namespace Go.Proofs.YtgkfbembnlgahaaGreatDoor
open Go Go.Sx Go.Tx
theorem CC_w : Rows.chartClassesRow.wfByText (OpenSpec.ofChange Rows.chartClassesSpec) = true := by kernel_rfl
theorem CC_m : Tryz.pinned.checked.prog.mainIs = some (true, "b8cebc40c63b5fe798bf40e4c9e0b599aa93089535e704d581b0d8c3128bde50".toList) := by kernel_rfl
theorem CC_l : true = Tryz.pinned.checked.prog.looks [] := by kernel_rfl
theorem CC_n : Tryz.prog.funcNamed "sabretache/sabretachelaw07.ChartClasses" = some 8 := by kernel_rfl
theorem CC_g : false = Rows.chartClassesRow.goesBy Tryz.pinned.checked.prog := by kernel_rfl
theorem CC_s : Tryz.prog.wantsStandIn 9 = false := by kernel_rfl
theorem CC_card (h : Rows.ChartClassesSaid) : Rows.ChartClassesCardSaid :=
  Claim7.holds_tied_plain_at .later [] [.data, .data, .data, .data, .sentinel, .sentinel, .pinned, .pinned] true (true, "b8cebc40c63b5fe798bf40e4c9e0b599aa93089535e704d581b0d8c3128bde50") true
    h (fun _ h => by cases h) CC_w (fun _ h => by cases h) chartClasses_row_tie rfl ⟨rfl, rfl⟩ CC_m rfl
    (fun f fn hf hfn => by
      obtain rfl : f = 8 := Option.some.inj (CC_n.symm.trans hf) |>.symm
      obtain rfl : fn = Tryz.f8 := (Option.some.inj (Tryz.func8.symm.trans hfn)).symm
      exact ⟨CC_l, fun j t ht => by
        rw [Tryz.params8] at ht
        have h3 : t = 9 := by
          rcases j with _ | j
          · simpa using ht.symm
          · simp at ht
        subst h3
        exact CC_s⟩)
    CC_g
end Go.Proofs.YtgkfbembnlgahaaGreatDoor
