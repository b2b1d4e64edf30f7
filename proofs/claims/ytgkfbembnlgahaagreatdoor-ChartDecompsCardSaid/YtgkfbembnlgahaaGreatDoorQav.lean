/- ChartDecomps: for any argument the call of the law returns true, and the argument reads afterwards as before. No condition beyond the row's: the listed variables of Go's library read as the program's text lays them (tied). -/
import Derived.Test.YtgkfbembnlgahaaGreatDoorQai
import Derived.Test.YtgkfbembnlgahaaGreatDoorQao
import Derived.Test.YtgkfbembnlgahaaGreatDoorQau
set_option linter.unusedVariables false
set_option maxRecDepth 100000
namespace Go.Proofs.YtgkfbembnlgahaaGreatDoor
open Go Go.Sx Go.Tx

theorem chartDecomps_walk (s : ByteArray) (W : World) (h8 : laidMet Tryz.prog laid8 W) (hm : ∃ m, W.cell? ⟨2, 0, none⟩ = some (.int .i64 m)) (h0 : s.size ≤ maxLen) :
    Calls Tryz.prog 10 #[.string s] W fun e W' => e = .returned (.bool true) ∧ Go.RowKit.Below W.heap.size W W' := by
  obtain ⟨m, hm⟩ := hm
  exact calls_simple (S := law07_ChartDecomps_s) (args := [.v (.string s)]) (v := s) (o := true) (val := .bool true) (law07_ChartDecomps_v (gs_of (tabs_of8 h8) hm (db_of h8 (.tail _ (.head _))))) (by kernel_rfl)
    (Go.Pc.ChartDecomps_is s) (by kernel_rfl) (fun ρ => ⟨rfl, trivial⟩) (glOf_w W)

theorem chartDecomps_holds : Rows.ChartDecompsCardSaid := CD_card (CD_holds chartDecomps_walk)
#print axioms chartDecomps_holds
end Go.Proofs.YtgkfbembnlgahaaGreatDoor
