/- Part 21 of the proof of the statement that the last part names; it asks for no condition of its own. Here: CardCD. -/
import Derived.Test.YtgkfbembnlgahaaGreatDoorQat
import Derived.Test.YtgkfbembnlgahaaGreatDoorTie
import Derived.Test.YtgkfbembnlgahaaGreatDoorCards
import Derived.SevenTiedAt
/- The tied card of ChartDecomps, out of its row. -/
set_option maxRecDepth 100000
namespace Go.Proofs.YtgkfbembnlgahaaGreatDoor
open Go Go.Sx Go.Tx
theorem CD_w : Rows.chartDecompsRow.wfByText (OpenSpec.ofChange Rows.chartDecompsSpec) = true := by kernel_rfl
theorem CD_m : Tryz.pinned.checked.prog.mainIs = some (true, "b8cebc40c63b5fe798bf40e4c9e0b599aa93089535e704d581b0d8c3128bde50".toList) := by kernel_rfl
theorem CD_l : true = Tryz.pinned.checked.prog.looks [] := by kernel_rfl
theorem CD_n : Tryz.prog.funcNamed "sabretache/sabretachelaw07.ChartDecomps" = some 10 := by kernel_rfl
theorem CD_g : false = Rows.chartDecompsRow.goesBy Tryz.pinned.checked.prog := by kernel_rfl
theorem CD_s : Tryz.prog.wantsStandIn 9 = false := by kernel_rfl
theorem CD_card (h : Rows.ChartDecompsSaid) : Rows.ChartDecompsCardSaid :=
  Claim7.holds_tied_plain_at .later [] [.data, .data, .data, .data, .sentinel, .sentinel, .pinned, .pinned] true (true, "b8cebc40c63b5fe798bf40e4c9e0b599aa93089535e704d581b0d8c3128bde50") true
    h (fun _ h => by cases h) CD_w (fun _ h => by cases h) chartDecomps_row_tie rfl ⟨rfl, rfl⟩ CD_m rfl
    (fun f fn hf hfn => by
      obtain rfl : f = 10 := Option.some.inj (CD_n.symm.trans hf) |>.symm
      obtain rfl : fn = Tryz.f10 := (Option.some.inj (Tryz.func10.symm.trans hfn)).symm
      exact ⟨CD_l, fun j t ht => by
        rw [Tryz.params10] at ht
        have h3 : t = 9 := by
          rcases j with _ | j
          · simpa using ht.symm
          · simp at ht
        subst h3
        exact CD_s⟩)
    CD_g
end Go.Proofs.YtgkfbembnlgahaaGreatDoor
