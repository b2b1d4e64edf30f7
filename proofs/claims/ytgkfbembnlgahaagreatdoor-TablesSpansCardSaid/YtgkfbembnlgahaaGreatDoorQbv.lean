/- Part 48 of the proof of the statement that the last part names; it asks for no condition of its own. Here: CardTS. -/
import Derived.Test.YtgkfbembnlgahaaGreatDoorQbu
import Derived.Test.YtgkfbembnlgahaaGreatDoorTie
import Derived.Test.YtgkfbembnlgahaaGreatDoorCards
import Derived.SevenTiedAt
set_option maxRecDepth 100000
/- The tied card of TablesSpans, out of its row. -/
namespace Go.Proofs.YtgkfbembnlgahaaGreatDoor
open Go Go.Sx Go.Tx
theorem TS_w : Rows.tablesSpansRow.wfByText (OpenSpec.ofChange Rows.tablesSpansSpec) = true := by kernel_rfl
theorem TS_m : Tryz.pinned.checked.prog.mainIs = some (true, "b8cebc40c63b5fe798bf40e4c9e0b599aa93089535e704d581b0d8c3128bde50".toList) := by kernel_rfl
theorem TS_l : true = Tryz.pinned.checked.prog.looks [] := by kernel_rfl
theorem TS_n : Tryz.prog.funcNamed "sabretache/sabretachelaw08.TablesSpans" = some 13 := by kernel_rfl
theorem TS_g : false = Rows.tablesSpansRow.goesBy Tryz.pinned.checked.prog := by kernel_rfl
theorem TS_s113 : Tryz.prog.wantsStandIn 113 = false := by kernel_rfl
theorem TS_s22 : Tryz.prog.wantsStandIn 22 = false := by kernel_rfl
theorem TS_s4 : Tryz.prog.wantsStandIn 4 = false := by kernel_rfl
theorem TS_card (h : Rows.TablesSpansSaid) : Rows.TablesSpansCardSaid :=
  Claim7.holds_tied_plain_at .later [] [.data, .data, .data, .data, .sentinel, .sentinel, .pinned] true (true, "b8cebc40c63b5fe798bf40e4c9e0b599aa93089535e704d581b0d8c3128bde50") true
    h (fun _ h => by cases h) TS_w (fun _ h => by cases h) tablesSpans_row_tie rfl ⟨rfl, rfl⟩ TS_m rfl
    (fun f fn hf hfn => by
      obtain rfl : f = 13 := Option.some.inj (TS_n.symm.trans hf) |>.symm
      obtain rfl : fn = Tryz.f13 := (Option.some.inj (Tryz.func13.symm.trans hfn)).symm
      exact ⟨TS_l, fun j t ht => by
        rw [Tryz.params13] at ht
        have h3 : t = 22 ∨ t = 113 ∨ t = 4 := by
          rcases j with _ | _ | _ | j
          · exact .inl (by simpa using ht.symm)
          · exact .inr (.inl (by simpa using ht.symm))
          · exact .inr (.inr (by simpa using ht.symm))
          · simp at ht
        rcases h3 with rfl | rfl | rfl
        · exact TS_s22
        · exact TS_s113
        · exact TS_s4⟩)
    TS_g
end Go.Proofs.YtgkfbembnlgahaaGreatDoor
