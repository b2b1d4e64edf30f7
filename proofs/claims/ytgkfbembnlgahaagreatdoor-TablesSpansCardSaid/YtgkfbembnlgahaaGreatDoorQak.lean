/- Part 11 of the proof of the statement that the last part names; it asks for no condition of its own. Here: PcMr0. -/
import Derived.Test.YtgkfbembnlgahaaGreatDoorQai
import Derived.Shelf.SlSortCmp.NoneTotal
set_option linter.unusedVariables false
namespace Go.Pc
open Go Go.Sx Go.Ts Go.Sort Go.Proofs
def cfS (x y : Int × Int) : Int := if x.1 < y.1 then -1 else if x.1 > y.1 then 1 else if x.2 < y.2 then -1 else if x.2 > y.2 then 1 else 0
def cpI (a b : Int) : Int := if a < b then -1 else if a > b then 1 else 0
theorem cmp_is (a b : Int) : cmp_Compare_uint32 a b = some (cpI a b) := by
  unfold cmp_Compare_uint32 cmp_isNaN_uint32 cpI
  simp only [Option.bind_some, bne_self_eq_false, Bool.false_eq_true, if_false, decide_eq_true_eq]
  split
  · rfl
  · split <;> rfl
theorem or_is (a b : Int) : cmp_Or_int [a, b] = some (if a ≠ 0 then a else b, [a, b]) := by
  unfold cmp_Or_int
  have w0 : IntKind.i64.wrap (1 : Int) = 1 := by decide
  have w1 : IntKind.i64.wrap (2 : Int) = 2 := by decide
  by_cases ha : a = 0
  · subst ha
    have e0 : cmp_Or_int_b3 ((([(0 : Int), b].length : Nat) : Int), (0 : Int), [0, b]) = some (.inl ((([(0 : Int), b].length : Nat) : Int), (1 : Int), [0, b])) := by
      simp [cmp_Or_int_b3, w0]
    rw [runLoop_step e0]
    by_cases hb : b = 0
    · subst hb
      have e1 : cmp_Or_int_b3 ((([(0 : Int), 0].length : Nat) : Int), (1 : Int), [0, 0]) = some (.inl ((([(0 : Int), 0].length : Nat) : Int), (2 : Int), [0, 0])) := by
        simp [cmp_Or_int_b3, w1]
      rw [runLoop_step e1]
      have e2 : cmp_Or_int_b3 ((([(0 : Int), 0].length : Nat) : Int), (2 : Int), [0, 0]) = some (.inr (.inr [0, 0])) := by
        simp [cmp_Or_int_b3]
      rw [runLoop_done e2]
      rfl
    · have e1 : cmp_Or_int_b3 ((([(0 : Int), b].length : Nat) : Int), (1 : Int), [0, b]) = some (.inr (.inl (b, [0, b]))) := by
        simp [cmp_Or_int_b3, hb]
      rw [runLoop_done e1]
      simp
  · have e0 : cmp_Or_int_b3 ((([a, b].length : Nat) : Int), (0 : Int), [a, b]) = some (.inr (.inl (a, [a, b]))) := by
      simp [cmp_Or_int_b3, ha]
    rw [runLoop_done e0]
    simp [ha]
theorem merge2_is (x y : Int × Int) : tables_Merge_2 x.1 x.2 y.1 y.2 = some (cfS x y) := by
  unfold tables_Merge_2
  rw [cmp_is, cmp_is]
  simp only [Option.bind_some]
  rw [or_is]
  simp only [Option.bind_some]
  unfold cfS cpI
  by_cases h1 : x.1 < y.1
  · simp [h1]
  · by_cases h2 : x.1 > y.1
    · simp [h1, h2]
    · simp [h1, h2]
theorem ltS (x y : Int × Int) : ltOf cfS x y = decide (x.1 < y.1 ∨ (x.1 = y.1 ∧ x.2 < y.2)) := by
  unfold ltOf cfS
  apply decide_eq_decide.2
  split
  · omega
  · split
    · omega
    · split
      · omega
      · split <;> omega
theorem swoS : SWO (ltOf cfS) where
  irrefl x := by rw [ltS]; simp
  trans x y z h1 h2 := by rw [ltS] at *; simp only [decide_eq_true_eq] at *; omega
  ntrans x y z h1 h2 := by rw [ltS] at *; simp only [decide_eq_false_iff_not] at *; omega
theorem totS (x y : Int × Int) (h1 : ltOf cfS x y = false) (h2 : ltOf cfS y x = false) : x = y := by
  rw [ltS] at *
  simp only [decide_eq_false_iff_not] at *
  exact Prod.ext (by omega) (by omega)
def sortS (l : List (Int × Int)) : List (Int × Int) := l.mergeSort fun x y => !(ltOf cfS y x)
theorem sortS_perm (l : List (Int × Int)) : (sortS l).Perm l := List.mergeSort_perm l _
theorem sortS_ord (l : List (Int × Int)) : (sortS l).Pairwise fun a b => a.1 ≤ b.1 := by
  have h := List.pairwise_mergeSort (le := fun x y => !(ltOf cfS y x)) (fun a b c h1 h2 => by
    simp only [ltS, Bool.not_eq_true', decide_eq_false_iff_not] at *; omega) (fun a b => by
    simp only [ltS, Bool.or_eq_true, Bool.not_eq_true', decide_eq_false_iff_not]; omega) l
  refine h.imp fun {a b} hab => ?_
  simp only [ltS, Bool.not_eq_true', decide_eq_false_iff_not] at hab
  omega
end Go.Pc
