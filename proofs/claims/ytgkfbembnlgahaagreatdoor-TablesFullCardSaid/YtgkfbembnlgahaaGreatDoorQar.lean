/- TablesFull: for every point, every place and either reading the call of the law returns true, and each argument reads afterwards as before. No condition beyond the row's: the listed variables of Go's library read as the program's text lays them (tied). -/
import Derived.Test.YtgkfbembnlgahaaGreatDoorQai
import Derived.Test.YtgkfbembnlgahaaGreatDoorQam
import Derived.Test.YtgkfbembnlgahaaGreatDoorQaq
set_option maxRecDepth 100000
namespace Go.Proofs.YtgkfbembnlgahaaGreatDoor
open Go Go.Sx Go.Tx

theorem u16_range {a : Int} (h : (Lit.int .u16 a).wf = true) : 0 ≤ a ∧ a ≤ 65535 := by
  have h' : (decide (IntKind.u16.min ≤ a) && decide (a ≤ IntKind.u16.max)) = true := h
  rw [Bool.and_eq_true, decide_eq_true_eq, decide_eq_true_eq] at h'
  have e1 : IntKind.u16.min = 0 := by decide
  have e2 : IntKind.u16.max = 65535 := by decide
  rw [e1, e2] at h'
  exact h'
theorem tablesFull_walk (p a : Int) (c : Bool) (W : World) (gl : Glob) (hg : Gs gl) (hw : GLw gl W) (h0 : (Lit.int .u32 p).wf = true) (h1 : (Lit.int .u16 a).wf = true) :
    Calls Tryz.prog 3 #[.int .u32 p, .int .u16 a, .bool c] W fun e W' => e = .returned (.bool true) ∧ Go.RowKit.Below W.heap.size W W' :=
  calls_simple (S := law08_TablesFull_s) (args := [.v (.int .u32 p), .v (.int .u16 a), .v (.bool c)]) (v := (p, a, c)) (o := true) (val := .bool true) (law08_TablesFull_v hg) (by kernel_rfl)
    (Go.Pc.TablesFull_is p a c (u16_range h1).1 (u16_range h1).2) (by kernel_rfl) (fun ρ => ⟨rfl, rfl, rfl, trivial⟩) hw

theorem tablesFull_holds : Rows.TablesFullCardSaid := tf_card (tf_holds tablesFull_walk)
#print axioms tablesFull_holds
end Go.Proofs.YtgkfbembnlgahaaGreatDoor
