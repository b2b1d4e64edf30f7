/- Part 39 of the proof of the statement that the last part names; it asks for no condition of its own. Here: PcTF. -/
import Derived.Test.YtgkfbembnlgahaaGreatDoorQar
import Derived.Test.YtgkfbembnlgahaaGreatDoorQbl
import Derived.Test.YtgkfbembnlgahaaGreatDoorQbg
set_option linter.unusedVariables false
set_option linter.unusedSimpArgs false
set_option maxRecDepth 100000
namespace Go.Pc
open Go Go.Sx Go.Tx
theorem resB_lst {T : Type} (r : List T ⊕ Nat) : ∃ a, resB r = (a, lstR r) := by cases r <;> exact ⟨_, rfl⟩
theorem rnew_is : ref08_New = some (theR, theC, decL, theL, theW, theS) := by
  unfold ref08_New
  have h0 := rRanges_is txR (by rw [szR]; omega)
  have h1 := rClasses_is txC (by rw [szC]; omega)
  have h2 := rDecomps_is decT (by rw [szD]; omega)
  have h3 := rRuns_is txL (by rw [szL]; omega)
  have h4 := rRuns_is txW (by rw [szW]; omega)
  have h5 := rSets_is txS (by rw [szS]; omega)
  rw [decR_is] at h2
  obtain ⟨a0, e0⟩ := resB_lst (readR oneRange (linesOf txR) [] 0)
  obtain ⟨a1, e1⟩ := resB_lst (readR oneW (linesOf txC) [] 0)
  obtain ⟨a3, e3⟩ := resB_lst (readR oneRun (linesOf txL) [] 0)
  obtain ⟨a4, e4⟩ := resB_lst (readR oneRun (linesOf txW) [] 0)
  obtain ⟨a5, e5⟩ := resB_lst (readR oneNamed (linesOf txS) [] 0)
  rw [e0] at h0
  rw [e1] at h1
  rw [e3] at h3
  rw [e4] at h4
  rw [e5] at h5
  unfold txR at h0
  unfold txC at h1
  unfold decT at h2
  unfold txL at h3
  unfold txW at h4
  unfold txS at h5
  rw [h0, h1, h2, h3, h4, h5]
  rfl

section
variable (l1 : List (Int × Int × ByteArray × ByteArray × ByteArray × Bool)) (l2 : List (Int × Int × Int)) (D : List Dc) (l4 l5 : List (Int × Int × Int)) (l6 : List (ByteArray × Int × Int))
end
end Go.Pc
