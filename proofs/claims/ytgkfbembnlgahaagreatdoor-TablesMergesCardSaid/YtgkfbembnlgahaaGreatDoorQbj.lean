/- TablesMerges: for any two slices of spans and any point the call of the law returns true, and each argument reads afterwards as before. No condition beyond the row's: the listed variables of Go's library read as the program's text lays them (tied). -/
import Derived.Test.YtgkfbembnlgahaaGreatDoorQas
import Derived.Test.YtgkfbembnlgahaaGreatDoorQba
import Derived.Test.YtgkfbembnlgahaaGreatDoorQbi
set_option linter.unusedVariables false
set_option maxRecDepth 100000
namespace Go.Proofs.YtgkfbembnlgahaaGreatDoor
open Go Go.Sx Go.Tx

theorem tablesMerges_walk : TM_walk := by
  intro v0 v1 l k x W h7 hm hl hk hx
  obtain ⟨m, hm⟩ := hm
  refine calls_rows (S := law08_TablesMerges_s) (args := [.own 0 0, .own 1 0, .v (.int .u32 x)]) (ents := [⟨0, 0, .row false 83 ksSp l⟩, ⟨1, 0, .row false 83 ksSp k⟩]) (xs := [v0, v1]) (v := (x, l, k)) (o := (true, l, k)) (val := .bool true)
    (law08_TablesMerges_v (gs_of (tabs_of h7) hm (db_of h7 (.tail _ (.head _))))) (by kernel_rfl) (Go.Pc.TablesMerges_is l k x (wf_u32 hx) hl.1 hk.1) (by kernel_rfl) rfl ?_ ?_ (glOf_w W)
  · intro i e he
    rcases i with _ | _ | i
    · cases he
      exact ⟨rfl, rfl, v0, rfl, hl.2⟩
    · cases he
      exact ⟨rfl, rfl, v1, rfl, hk.2⟩
    · simp at he
  · exact ⟨rfl, rfl, rfl, trivial⟩

theorem tablesMerges_holds : Rows.TablesMergesCardSaid := TM_card (TM_holds tablesMerges_walk)
#print axioms tablesMerges_holds
end Go.Proofs.YtgkfbembnlgahaaGreatDoor
