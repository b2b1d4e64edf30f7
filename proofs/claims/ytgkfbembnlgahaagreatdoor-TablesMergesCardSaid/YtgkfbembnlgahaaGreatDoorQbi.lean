/- Part 35 of the proof of the statement that the last part names; it asks for no condition of its own. Here: CardTM. -/
import Derived.Test.YtgkfbembnlgahaaGreatDoorQbh
import Derived.Test.YtgkfbembnlgahaaGreatDoorTie
import Derived.Test.YtgkfbembnlgahaaGreatDoorCards
import Derived.SevenTiedAt
/- The tied card of TablesMerges, out of its row. -/
set_option maxRecDepth 100000
namespace Go.Proofs.YtgkfbembnlgahaaGreatDoor
open Go Go.Sx Go.Tx
theorem TM_w : Rows.tablesMergesRow.wfByText (OpenSpec.ofChange Rows.tablesMergesSpec) = true := by kernel_rfl
theorem TM_m : Tryz.pinned.checked.prog.mainIs = some (true, "b8cebc40c63b5fe798bf40e4c9e0b599aa93089535e704d581b0d8c3128bde50".toList) := by kernel_rfl
theorem TM_l : true = Tryz.pinned.checked.prog.looks [] := by kernel_rfl
theorem TM_n : Tryz.prog.funcNamed "sabretache/sabretachelaw08.TablesMerges" = some 12 := by kernel_rfl
theorem TM_g : false = Rows.tablesMergesRow.goesBy Tryz.pinned.checked.prog := by kernel_rfl
theorem TM_s107 : Tryz.prog.wantsStandIn 107 = false := by kernel_rfl
theorem TM_s22 : Tryz.prog.wantsStandIn 22 = false := by kernel_rfl
theorem TM_card (h : Rows.TablesMergesSaid) : Rows.TablesMergesCardSaid :=
  Claim7.holds_tied_plain_at .later [] [.data, .data, .data, .data, .sentinel, .sentinel, .pinned] true (true, "b8cebc40c63b5fe798bf40e4c9e0b599aa93089535e704d581b0d8c3128bde50") true
    h (fun _ h => by cases h) TM_w (fun _ h => by cases h) tablesMerges_row_tie rfl ⟨rfl, rfl⟩ TM_m rfl
    (fun f fn hf hfn => by
      obtain rfl : f = 12 := Option.some.inj (TM_n.symm.trans hf) |>.symm
      obtain rfl : fn = Tryz.f12 := (Option.some.inj (Tryz.func12.symm.trans hfn)).symm
      exact ⟨TM_l, fun j t ht => by
        rw [Tryz.params12] at ht
        have h3 : t = 107 ∨ t = 22 := by
          rcases j with _ | _ | _ | j
          · exact .inl (by simpa using ht.symm)
          · exact .inl (by simpa using ht.symm)
          · exact .inr (by simpa using ht.symm)
          · simp at ht
        rcases h3 with rfl | rfl
        · exact TM_s107
        · exact TM_s22⟩)
    TM_g
end Go.Proofs.YtgkfbembnlgahaaGreatDoor
