/- Part 36 of the proof of the statement that the last part names; it asks for no condition of its own. Here: PcSp3. -/
import Derived.Test.YtgkfbembnlgahaaGreatDoorQbi
import Derived.Test.YtgkfbembnlgahaaGreatDoorQav
set_option linter.unusedVariables false
set_option linter.unusedSimpArgs false
set_option maxRecDepth 100000
set_option maxHeartbeats 0
namespace Go.Pc
open Go Go.Sx Go.Tx
theorem find_of_idx {T : Type} (q : T → Bool) (d : T) : ∀ l : List T, l.find? q = (l.findIdx? q).map (fun k => l.getD k d)
  | [] => rfl
  | x :: l => by
    rw [List.find?_cons, List.findIdx?_cons]
    cases hq : q x with
    | true => rfl
    | false =>
      simp only [Bool.false_eq_true, if_false]
      rw [find_of_idx q d l, Option.map_map]
      rfl
section
variable (R : List Rg) (l1 : List (Int × Int × Int)) (D : List Dc) (l3 l4 : List (Int × Int × Int)) (S : List Nm)
theorem rRange_is (hl : R.length ≤ 10000) (p : Int) : ref08_Tables_Range p R l1 D l3 l4 S = some (match R.find? (hasR p) with
    | some r => .inl (r.1, r.2.1, r.2.2.1, r.2.2.2.1, r.2.2.2.2.1, r.2.2.2.2.2, R, l1, D, l3, l4, S)
    | none => .inr (0, 0, ByteArray.empty, ByteArray.empty, ByteArray.empty, false, R, l1, D, l3, l4, S)) := by
  unfold ref08_Tables_Range
  have key := scan0 (b := ref08_Tables_Range_b2) R (hasR p) (fun i => (p, (i : Int), (0 : Int), (0 : Int), ByteArray.empty, ByteArray.empty, ByteArray.empty, false, R, l1, D, l3, l4, S))
    (fun k => .inl ((R.getD k zRg).1, (R.getD k zRg).2.1, (R.getD k zRg).2.2.1, (R.getD k zRg).2.2.2.1, (R.getD k zRg).2.2.2.2.1, (R.getD k zRg).2.2.2.2.2, R, l1, D, l3, l4, S))
    (.inr ((0 : Int), (0 : Int), ByteArray.empty, ByteArray.empty, ByteArray.empty, false, R, l1, D, l3, l4, S)) (fun i hi => by
    rw [ref08_Tables_Range_b2, Int.toNat_natCast, getD_in R i ((0 : Int), ((0 : Int), (ByteArray.empty, (ByteArray.empty, (ByteArray.empty, false))))) hi, wrap1 i _ hi (by omega), it1 (by omega), it2 (by omega) (by omega), it1 (by omega), has_eq, getD_in R i zRg hi]
    simp only [Option.bind_some]
    unfold hasR
    generalize (decide ((R[i]).1 ≤ p) && decide (p ≤ (R[i]).2.1)) = qv
    cases qv with
    | true => rw [itT, it2 (by omega) (by omega), it1 (by omega), if_pos rfl]
    | false => rw [itF, if_neg (by simp)]) (by rw [ref08_Tables_Range_b2, it0 (by omega)])
  have key' : runLoop ref08_Tables_Range_b2 (p, (0 : Int), (0 : Int), (0 : Int), ByteArray.empty, ByteArray.empty, ByteArray.empty, false, R, l1, D, l3, l4, S) = _ := key
  rw [key', find_of_idx (hasR p) zRg R]
  cases List.findIdx? (hasR p) R <;> rfl
end
end Go.Pc
