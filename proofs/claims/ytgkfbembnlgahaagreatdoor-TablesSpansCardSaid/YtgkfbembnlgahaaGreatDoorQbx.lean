/- TablesSpans: for any point, any names and either choice the call of the law returns true, and each argument reads afterwards as before. No condition beyond the row's: the listed variables of Go's library read as the program's text lays them (tied). -/
import Derived.Test.YtgkfbembnlgahaaGreatDoorQay
import Derived.Test.YtgkfbembnlgahaaGreatDoorQbn
import Derived.Test.YtgkfbembnlgahaaGreatDoorQbv
import Derived.Test.YtgkfbembnlgahaaGreatDoorQbw
set_option linter.unusedVariables false
set_option maxRecDepth 100000
namespace Go.Proofs.YtgkfbembnlgahaaGreatDoor
open Go Go.Sx Go.Tx

theorem tablesSpans_walk : TS_walk := by
  intro x v1 l c W h7 hm hl hx
  obtain ⟨m, hm⟩ := hm
  refine calls_rows (S := law08_TablesSpans_s) (args := [.v (.int .u32 x), .own 0 0, .v (.bool c)]) (ents := [⟨0, 0, .row false 9 [.b .str] l⟩]) (xs := [v1]) (v := (x, c, l)) (o := (true, l)) (val := .bool true)
    (law08_TablesSpans_v (gs_of (tabs_of h7) hm (db_of h7 (.tail _ (.head _))))) (by kernel_rfl) (Go.Pc.TablesSpans_is x c l (wf_u32 hx)) (by kernel_rfl) rfl ?_ ?_ (glOf_w W)
  · intro i e he
    rcases i with _ | i
    · cases he
      exact ⟨rfl, rfl, v1, rfl, hl⟩
    · simp at he
  · exact ⟨rfl, rfl, rfl, trivial⟩

theorem tablesSpans_holds : Rows.TablesSpansCardSaid := TS_card (TS_holds tablesSpans_walk)
#print axioms tablesSpans_holds
end Go.Proofs.YtgkfbembnlgahaaGreatDoor
