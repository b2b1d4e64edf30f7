/- Part 17 of the proof of the statement that the last part names; it asks for no condition of its own. Here: CardTF. -/
import Derived.Test.YtgkfbembnlgahaaGreatDoorQap
import Derived.Test.YtgkfbembnlgahaaGreatDoorTie
import Derived.Test.YtgkfbembnlgahaaGreatDoorCards
import Derived.SevenTiedAt
/- The tied card of TablesFull, out of its row. -/
set_option maxRecDepth 100000
namespace Go.Proofs.YtgkfbembnlgahaaGreatDoor
open Go Go.Sx Go.Tx
theorem TF_w : Rows.tablesFullRow.wfByText (OpenSpec.ofChange Rows.tablesFullSpec) = true := by kernel_rfl
theorem TF_m : Tryz.pinned.checked.prog.mainIs = some (true, "b8cebc40c63b5fe798bf40e4c9e0b599aa93089535e704d581b0d8c3128bde50".toList) := by kernel_rfl
theorem TF_l : true = Tryz.pinned.checked.prog.looks [] := by kernel_rfl
theorem TF_n : Tryz.prog.funcNamed "sabretache/sabretachelaw08.TablesFull" = some 3 := by kernel_rfl
theorem TF_g : false = Rows.tablesFullRow.goesBy Tryz.pinned.checked.prog := by kernel_rfl
theorem TF_s22 : Tryz.prog.wantsStandIn 22 = false := by kernel_rfl
theorem TF_s23 : Tryz.prog.wantsStandIn 23 = false := by kernel_rfl
theorem TF_s4 : Tryz.prog.wantsStandIn 4 = false := by kernel_rfl
theorem tf_card (h : Rows.TablesFullSaid) : Rows.TablesFullCardSaid :=
  Claim7.holds_tied_plain_at .later [] [.data, .data, .data, .data, .sentinel, .sentinel, .pinned] true (true, "b8cebc40c63b5fe798bf40e4c9e0b599aa93089535e704d581b0d8c3128bde50") true
    h (fun _ h => by cases h) TF_w (fun _ h => by cases h) tablesFull_row_tie rfl ⟨rfl, rfl⟩ TF_m rfl
    (fun f fn hf hfn => by
      obtain rfl : f = 3 := Option.some.inj (TF_n.symm.trans hf) |>.symm
      obtain rfl : fn = Tryz.f3 := (Option.some.inj (Tryz.func3.symm.trans hfn)).symm
      exact ⟨TF_l, fun j t ht => by
        rw [Tryz.params3] at ht
        have h3 : t = 22 ∨ t = 23 ∨ t = 4 := by
          rcases j with _ | _ | _ | j
          · exact .inl (by simpa using ht.symm)
          · exact .inr (.inl (by simpa using ht.symm))
          · exact .inr (.inr (by simpa using ht.symm))
          · simp at ht
        rcases h3 with rfl | rfl | rfl
        · exact TF_s22
        · exact TF_s23
        · exact TF_s4⟩)
    TF_g
end Go.Proofs.YtgkfbembnlgahaaGreatDoor
