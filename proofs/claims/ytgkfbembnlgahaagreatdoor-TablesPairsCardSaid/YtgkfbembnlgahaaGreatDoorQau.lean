/- Part 21 of the proof of the statement that the last part names; it asks for no condition of its own. Here: CardTP. -/
import Derived.Test.YtgkfbembnlgahaaGreatDoorQat
import Derived.Test.YtgkfbembnlgahaaGreatDoorTie
import Derived.Test.YtgkfbembnlgahaaGreatDoorCards
import Derived.SevenTiedAt
/- The tied card of TablesPairs, out of its row. -/
set_option maxRecDepth 100000
namespace Go.Proofs.YtgkfbembnlgahaaGreatDoor
open Go Go.Sx Go.Tx
theorem TP_w : Rows.tablesPairsRow.wfByText (OpenSpec.ofChange Rows.tablesPairsSpec) = true := by kernel_rfl
theorem TP_m : Tryz.pinned.checked.prog.mainIs = some (true, "b8cebc40c63b5fe798bf40e4c9e0b599aa93089535e704d581b0d8c3128bde50".toList) := by kernel_rfl
theorem TP_l : true = Tryz.pinned.checked.prog.looks [] := by kernel_rfl
theorem TP_n : Tryz.prog.funcNamed "sabretache/sabretachelaw08.TablesPairs" = some 4 := by kernel_rfl
theorem TP_g : false = Rows.tablesPairsRow.goesBy Tryz.pinned.checked.prog := by kernel_rfl
theorem TP_s22 : Tryz.prog.wantsStandIn 22 = false := by kernel_rfl
theorem tp_card (h : Rows.TablesPairsSaid) : Rows.TablesPairsCardSaid :=
  Claim7.holds_tied_plain_at .later [] [.data, .data, .data, .data, .sentinel, .sentinel, .pinned] true (true, "b8cebc40c63b5fe798bf40e4c9e0b599aa93089535e704d581b0d8c3128bde50") true
    h (fun _ h => by cases h) TP_w (fun _ h => by cases h) tablesPairs_row_tie rfl ⟨rfl, rfl⟩ TP_m rfl
    (fun f fn hf hfn => by
      obtain rfl : f = 4 := Option.some.inj (TP_n.symm.trans hf) |>.symm
      obtain rfl : fn = Tryz.f4 := (Option.some.inj (Tryz.func4.symm.trans hfn)).symm
      exact ⟨TP_l, fun j t ht => by
        rw [Tryz.params4] at ht
        have h3 : t = 22 := by
          rcases j with _ | _ | j
          · simpa using ht.symm
          · simpa using ht.symm
          · simp at ht
        subst h3
        exact TP_s22⟩)
    TP_g
end Go.Proofs.YtgkfbembnlgahaaGreatDoor
