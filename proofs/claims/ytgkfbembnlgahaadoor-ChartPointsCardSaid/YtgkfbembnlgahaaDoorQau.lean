/- ChartPoints: for any numbers the call of the law returns true, and the argument reads afterwards as before. No condition beyond the row's: the listed variables of Go's library read as the program's text lays them (tied). -/
import Derived.Test.YtgkfbembnlgahaaDoorQai
import Derived.Test.YtgkfbembnlgahaaDoorQal
import Derived.Test.YtgkfbembnlgahaaDoorQat
set_option linter.unusedVariables false
set_option maxRecDepth 100000
namespace Go.Proofs.YtgkfbembnlgahaaDoor
open Go Go.Sx Go.Tx

theorem chartPoints_walk : CP_walk := by
  intro v l W h8 hm hl
  obtain ⟨m, hm⟩ := hm
  refine calls_rows (S := law07_ChartPoints_s) (args := [.own 0 0]) (ents := [⟨0, 0, .row false 25 [.b (.int .u32)] l⟩]) (xs := [v]) (v := l) (o := (true, l)) (val := .bool true)
    (law07_ChartPoints_v (gs_of (tabs_of8 h8) hm (db_of h8 (.tail _ (.head _))))) (by kernel_rfl) (Go.Pc.ChartPoints_is l hl.1) (by kernel_rfl) rfl ?_ ?_ (glOf_w W)
  · intro i e he
    rcases i with _ | i
    · cases he
      exact ⟨rfl, rfl, v, rfl, hl.2⟩
    · simp at he
  · exact ⟨rfl, trivial⟩

theorem chartPoints_holds : Rows.ChartPointsCardSaid := CP_card (CP_holds chartPoints_walk)
#print axioms chartPoints_holds
end Go.Proofs.YtgkfbembnlgahaaDoor
