/- Part 11 of the proof of the statement that the last part names; it asks for no condition of its own. Here: PcAuto. -/
import Derived.Test.YtgkfbembnlgahaaDoorQaj
set_option linter.unusedVariables false
namespace Go.Pc
open Go Go.Sx
section
variable {α : Type} {P Q : Prop} [Decidable P] [Decidable Q] {a b : α}
theorem it1 (h : P) : (if decide P = true then a else b) = a := by rw [if_pos (decide_eq_true h)]
theorem it0 (h : ¬ P) : (if decide P = true then a else b) = b := by rw [if_neg (by simpa using h)]
theorem it2 (h : P) (h' : Q) : (if (decide P && decide Q) = true then a else b) = a := by rw [if_pos (by simp [h, h'])]
end
theorem itT {α : Type} {a b : α} : (if true = true then a else b) = a := rfl
theorem itF {α : Type} {a b : α} : (if false = true then a else b) = b := rfl
theorem getD_in {α : Type} (l : List α) (i : Nat) (d : α) (h : i < l.length) : l.getD i d = l[i] := by simp [List.getD, List.getElem?_eq_getElem h]
theorem take_succ' {α : Type} (l : List α) (i : Nat) (h : i < l.length) : l.take (i + 1) = l.take i ++ [l[i]] := by rw [List.take_add_one, List.getElem?_eq_getElem h]; rfl
end Go.Pc
