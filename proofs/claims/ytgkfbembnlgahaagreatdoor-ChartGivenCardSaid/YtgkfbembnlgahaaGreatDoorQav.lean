/- ChartGiven: for any argument the call of the law returns true, and the argument reads afterwards as before. No condition beyond the row's: the listed variables of Go's library read as the program's text lays them (tied). -/
import Derived.Test.YtgkfbembnlgahaaGreatDoorQai
import Derived.Test.YtgkfbembnlgahaaGreatDoorQao
import Derived.Test.YtgkfbembnlgahaaGreatDoorQau
set_option linter.unusedVariables false
set_option maxRecDepth 100000
namespace Go.Proofs.YtgkfbembnlgahaaGreatDoor
open Go Go.Sx Go.Tx

theorem wf_u16 {n : Int} (h : (Lit.int .u16 n).wf = true) : 0 ≤ n ∧ n ≤ 65535 := by
  have h' : (decide (IntKind.u16.min ≤ n) && decide (n ≤ IntKind.u16.max)) = true := h
  rw [Bool.and_eq_true, decide_eq_true_eq, decide_eq_true_eq] at h'
  have e1 : IntKind.u16.min = 0 := by decide
  have e2 : IntKind.u16.max = 65535 := by decide
  rw [e1, e2] at h'
  exact h'
theorem chartGiven_walk (n : Int) (W : World) (h8 : laidMet Tryz.prog laid8 W) (hm : ∃ m, W.cell? ⟨2, 0, none⟩ = some (.int .i64 m)) (h0 : (Lit.int .u16 n).wf = true) :
    Calls Tryz.prog 11 #[.int .u16 n] W fun e W' => e = .returned (.bool true) ∧ Go.RowKit.Below W.heap.size W W' := by
  obtain ⟨m, hm⟩ := hm
  exact calls_simple (S := law07_ChartGiven_s) (args := [.v (.int .u16 n)]) (v := n) (o := true) (val := .bool true) (law07_ChartGiven_v (gs_of (tabs_of8 h8) hm (db_of h8 (.tail _ (.head _))))) (by kernel_rfl)
    (Go.Pc.ChartGiven_is n (wf_u16 h0).1 (wf_u16 h0).2) (by kernel_rfl) (fun ρ => ⟨rfl, trivial⟩) (glOf_w W)

theorem chartGiven_holds : Rows.ChartGivenCardSaid := CG_card (CG_holds chartGiven_walk)
#print axioms chartGiven_holds
end Go.Proofs.YtgkfbembnlgahaaGreatDoor
