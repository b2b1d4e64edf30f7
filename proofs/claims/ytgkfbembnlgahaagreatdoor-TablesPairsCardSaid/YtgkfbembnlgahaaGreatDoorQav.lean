/- TablesPairs: for any two points the call of the law returns true, and each argument reads afterwards as before. No condition beyond the row's: the listed variables of Go's library read as the program's text lays them (tied). -/
import Derived.Test.YtgkfbembnlgahaaGreatDoorQai
import Derived.Test.YtgkfbembnlgahaaGreatDoorQao
import Derived.Test.YtgkfbembnlgahaaGreatDoorQau
import Derived.Test.YtgkfbembnlgahaaGreatDoorQap
set_option linter.unusedVariables false
set_option maxRecDepth 100000
namespace Go.Proofs.YtgkfbembnlgahaaGreatDoor
open Go Go.Sx Go.Tx

theorem tablesPairs_walk (a b : Int) (W : World) (gl : Glob) (hg : Gs gl) (hw : GLw gl W) (h0 : (Lit.int .u32 a).wf = true) (h1 : (Lit.int .u32 b).wf = true) :
    Calls Tryz.prog 4 #[.int .u32 a, .int .u32 b] W fun e W' => e = .returned (.bool true) ∧ Go.RowKit.Below W.heap.size W W' :=
  calls_simple (S := law08_TablesPairs_s) (args := [.v (.int .u32 a), .v (.int .u32 b)]) (v := (a, b)) (o := true) (val := .bool true) (law08_TablesPairs_v hg) (by kernel_rfl)
    (Go.Pc.TablesPairs_is a b) (by kernel_rfl) (fun ρ => ⟨rfl, rfl, trivial⟩) hw

theorem tablesPairs_holds : Rows.TablesPairsCardSaid := tp_card (tp_holds tablesPairs_walk)
#print axioms tablesPairs_holds
end Go.Proofs.YtgkfbembnlgahaaGreatDoor
