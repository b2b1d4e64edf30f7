/- Part 20 of the proof of the statement that the last part names; it asks for no condition of its own. Here: CardCP. -/
import Derived.Test.YtgkfbembnlgahaaDoorQas
import Derived.Test.YtgkfbembnlgahaaDoorTie
import Derived.Test.YtgkfbembnlgahaaDoorCards
import Derived.SevenTiedAt
set_option maxRecDepth 100000
/- The tied card of ChartPoints, out of its row. -/
namespace Go.Proofs.YtgkfbembnlgahaaDoor
open Go Go.Sx Go.Tx
theorem CP_w : Rows.chartPointsRow.wfByText (OpenSpec.ofChange Rows.chartPointsSpec) = true := by kernel_rfl
theorem CP_m : Tryd.pinned.checked.prog.mainIs = some (true, "ac410ef29a96b85081046b323f9c3a3d96164968aeb5e5063fc7c43db3f9f627".toList) := by kernel_rfl
theorem CP_l : true = Tryd.pinned.checked.prog.looks [] := by kernel_rfl
theorem CP_n : Tryd.prog.funcNamed "sabretache/sabretachelaw07.ChartPoints" = some 3 := by kernel_rfl
theorem CP_g : false = Rows.chartPointsRow.goesBy Tryd.pinned.checked.prog := by kernel_rfl
theorem CP_s : Tryd.prog.wantsStandIn 22 = false := by kernel_rfl
theorem CP_card (h : Rows.ChartPointsSaid) : Rows.ChartPointsCardSaid :=
  Claim7.holds_tied_plain_at .later [] [.data, .data, .data, .data, .sentinel, .sentinel, .pinned, .pinned] true (true, "ac410ef29a96b85081046b323f9c3a3d96164968aeb5e5063fc7c43db3f9f627") true
    h (fun _ h => by cases h) CP_w (fun _ h => by cases h) chartPoints_row_tie rfl ⟨rfl, rfl⟩ CP_m rfl
    (fun f fn hf hfn => by
      obtain rfl : f = 3 := Option.some.inj (CP_n.symm.trans hf) |>.symm
      obtain rfl : fn = Tryd.f3 := (Option.some.inj (Tryd.func3.symm.trans hfn)).symm
      exact ⟨CP_l, fun j t ht => by
        rw [Tryd.params3] at ht
        have h3 : t = 22 := by
          rcases j with _ | j
          · simpa using ht.symm
          · simp at ht
        subst h3
        exact CP_s⟩)
    CP_g
end Go.Proofs.YtgkfbembnlgahaaDoor
