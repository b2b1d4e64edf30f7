/- Part 20 of the proof of the statement that the last part names; it asks for no condition of its own. Here: GenSpA. -/
import Derived.Test.YtgkfbembnlgahaaGreatDoorQae
import Derived.Test.YtgkfbembnlgahaaGreatDoorQap
import Derived.Test.YtgkfbembnlgahaaGreatDoorQal
import Derived.Test.YtgkfbembnlgahaaGreatDoorQam
set_option linter.all false
set_option linter.unusedVariables false
set_option maxRecDepth 100000
namespace Go.Tx
open Go Go.Sx
noncomputable def tables_Tables_Assigned_1 (r0_0 : Int) (r0_1 : Int) (r0_2 : ByteArray) (r0_3 : ByteArray) (r0_4 : ByteArray) (r0_5 : Bool) (h0_0 : Bool) : Option ((Bool × Bool)) :=
  if h0_0 = true then
   some (true, h0_0)
  else
   some ((!r0_5), h0_0)
noncomputable def tables_Tables_ranged_b5 : Int × Int × Bool × List (Int × Int × ByteArray × ByteArray × ByteArray × Bool) × List (Int × Int × Int) × List (Int × List (Int) × Bool × Bool) × List (Int × Int × Int) × List (Int × Int × Int) × List (ByteArray × Int × Int) × List (Int × Int) → Option ((Int × Int × Bool × List (Int × Int × ByteArray × ByteArray × ByteArray × Bool) × List (Int × Int × Int) × List (Int × List (Int) × Bool × Bool) × List (Int × Int × Int) × List (Int × Int × Int) × List (ByteArray × Int × Int) × List (Int × Int)) ⊕ ((List (Int × Int) × Bool × List (Int × Int × ByteArray × ByteArray × ByteArray × Bool) × List (Int × Int × Int) × List (Int × List (Int) × Bool × Bool) × List (Int × Int × Int) × List (Int × Int × Int) × List (ByteArray × Int × Int)))) := fun
  | (t15, t16, h1_0, l2, l3, l4, l5, l6, l7, l5000) =>
  if (decide (t16 < t15)) = true then
   if ((decide ((0 : Int) ≤ t16)) && (decide (t16 < ((l2.length : Nat) : Int)))) = true then
    if (decide (t16.toNat < l2.length)) = true then
     ((Go.Tx.tables_Tables_Assigned_1 (l2.getD t16.toNat ((0 : Int), ((0 : Int), (ByteArray.empty, (ByteArray.empty, (ByteArray.empty, false)))))).1 (l2.getD t16.toNat ((0 : Int), ((0 : Int), (ByteArray.empty, (ByteArray.empty, (ByteArray.empty, false)))))).2.1 (l2.getD t16.toNat ((0 : Int), ((0 : Int), (ByteArray.empty, (ByteArray.empty, (ByteArray.empty, false)))))).2.2.1 (l2.getD t16.toNat ((0 : Int), ((0 : Int), (ByteArray.empty, (ByteArray.empty, (ByteArray.empty, false)))))).2.2.2.1 (l2.getD t16.toNat ((0 : Int), ((0 : Int), (ByteArray.empty, (ByteArray.empty, (ByteArray.empty, false)))))).2.2.2.2.1 (l2.getD t16.toNat ((0 : Int), ((0 : Int), (ByteArray.empty, (ByteArray.empty, (ByteArray.empty, false)))))).2.2.2.2.2 h1_0)).bind fun (r0_0, r0_1) =>
      if r0_0 = true then
       if (decide (((l5000.length + [((l2.getD t16.toNat ((0 : Int), ((0 : Int), (ByteArray.empty, (ByteArray.empty, (ByteArray.empty, false)))))).1, (l2.getD t16.toNat ((0 : Int), ((0 : Int), (ByteArray.empty, (ByteArray.empty, (ByteArray.empty, false)))))).2.1)].length) * 8) ≤ 140737488355328)) = true then
        some (.inl (t15, ((Go.IntKind.wrap .i64 (t16 + (1 : Int))), (r0_1, (l2, (l3, (l4, (l5, (l6, (l7, (l5000 ++ [((l2.getD t16.toNat ((0 : Int), ((0 : Int), (ByteArray.empty, (ByteArray.empty, (ByteArray.empty, false)))))).1, (l2.getD t16.toNat ((0 : Int), ((0 : Int), (ByteArray.empty, (ByteArray.empty, (ByteArray.empty, false)))))).2.1)])))))))))))
       else
        none
      else
       some (.inl (t15, ((Go.IntKind.wrap .i64 (t16 + (1 : Int))), (r0_1, (l2, (l3, (l4, (l5, (l6, (l7, l5000))))))))))
    else
     none
   else
    none
  else
   some (.inr (l5000, (h1_0, (l2, (l3, (l4, (l5, (l6, l7))))))))
noncomputable def tables_Tables_ranged (h1_0 : Bool) (l2 : List (Int × Int × ByteArray × ByteArray × ByteArray × Bool)) (l3 : List (Int × Int × Int)) (l4 : List (Int × List (Int) × Bool × Bool)) (l5 : List (Int × Int × Int)) (l6 : List (Int × Int × Int)) (l7 : List (ByteArray × Int × Int)) : Option ((List (Int × Int) × Bool × List (Int × Int × ByteArray × ByteArray × ByteArray × Bool) × List (Int × Int × Int) × List (Int × List (Int) × Bool × Bool) × List (Int × Int × Int) × List (Int × Int × Int) × List (ByteArray × Int × Int))) :=
  ((Go.Sx.runLoop tables_Tables_ranged_b5 (((l2.length : Nat) : Int), ((0 : Int), (h1_0, (l2, (l3, (l4, (l5, (l6, (l7, []))))))))))).bind fun (r0_0, r0_1, r0_2, r0_3, r0_4, r0_5, r0_6, r0_7) =>
   ((Go.Tx.tables_Merge_i2 r0_0)).bind fun (r1_0, r1_1) =>
    some (r1_0, (r0_1, (r0_2, (r0_3, (r0_4, (r0_5, (r0_6, r0_7)))))))
noncomputable def tables_Tables_Assigned (all1 : Bool) (l1 : List (Int × Int × ByteArray × ByteArray × ByteArray × Bool)) (l2 : List (Int × Int × Int)) (l3 : List (Int × List (Int) × Bool × Bool)) (l4 : List (Int × Int × Int)) (l5 : List (Int × Int × Int)) (l6 : List (ByteArray × Int × Int)) : Option ((List (Int × Int) × List (Int × Int × ByteArray × ByteArray × ByteArray × Bool) × List (Int × Int × Int) × List (Int × List (Int) × Bool × Bool) × List (Int × Int × Int) × List (Int × Int × Int) × List (ByteArray × Int × Int))) :=
  ((Go.Tx.tables_Tables_ranged all1 l1 l2 l3 l4 l5 l6)).bind fun (r0_0, r0_1, r0_2, r0_3, r0_4, r0_5, r0_6, r0_7) =>
   some (r0_0, (r0_2, (r0_3, (r0_4, (r0_5, (r0_6, r0_7))))))
noncomputable def slices_Index___b2 : ByteArray × Int × Int × List (ByteArray) → Option ((ByteArray × Int × Int × List (ByteArray)) ⊕ ((Int × List (ByteArray)) ⊕ List (ByteArray))) := fun
  | (v1, t7, t8, l0) =>
  if (decide (t8 < t7)) = true then
   if ((decide ((0 : Int) ≤ t8)) && (decide (t8 < ((l0.length : Nat) : Int)))) = true then
    if (decide (t8.toNat < l0.length)) = true then
     if (List.beq (ByteArray.toList v1) (ByteArray.toList (l0.getD t8.toNat ByteArray.empty))) = true then
      some (.inr (.inl (t8, l0)))
     else
      some (.inl (v1, (t7, ((Go.IntKind.wrap .i64 (t8 + (1 : Int))), l0))))
    else
     none
   else
    none
  else
   some (.inr (.inr l0))
noncomputable def slices_Index__ (v1 : ByteArray) (l0 : List (ByteArray)) : Option ((Int × List (ByteArray))) :=
  ((Go.Sx.runLoop slices_Index___b2 (v1, (((l0.length : Nat) : Int), ((0 : Int), l0))))).bind fun r0_0 =>
   match r0_0 with
   | .inl (r1_0, r1_1) =>
    some (r1_0, r1_1)
   | .inr r2_0 =>
    some ((-1 : Int), r2_0)
noncomputable def slices_Contains__ (v1 : ByteArray) (l0 : List (ByteArray)) : Option ((Bool × List (ByteArray))) :=
  ((Go.Tx.slices_Index__ v1 l0)).bind fun (r0_0, r0_1) =>
   some ((decide (r0_0 ≥ (0 : Int))), r0_1)
noncomputable def tables_Tables_Cats_1 (r0_0 : Int) (r0_1 : Int) (r0_2 : ByteArray) (r0_3 : ByteArray) (r0_4 : ByteArray) (r0_5 : Bool) (l1 : List (ByteArray)) : Option ((Bool × List (ByteArray))) :=
  ((Go.Tx.slices_Contains__ r0_2 l1)).bind fun (r0_0, r0_1) =>
   some (r0_0, r0_1)
noncomputable def tables_Tables_ranged_i2_b5 : Int × Int × List (Int × Int × ByteArray × ByteArray × ByteArray × Bool) × List (Int × Int × Int) × List (Int × List (Int) × Bool × Bool) × List (Int × Int × Int) × List (Int × Int × Int) × List (ByteArray × Int × Int) × List (ByteArray) × List (Int × Int) → Option ((Int × Int × List (Int × Int × ByteArray × ByteArray × ByteArray × Bool) × List (Int × Int × Int) × List (Int × List (Int) × Bool × Bool) × List (Int × Int × Int) × List (Int × Int × Int) × List (ByteArray × Int × Int) × List (ByteArray) × List (Int × Int)) ⊕ ((List (Int × Int) × List (Int × Int × ByteArray × ByteArray × ByteArray × Bool) × List (Int × Int × Int) × List (Int × List (Int) × Bool × Bool) × List (Int × Int × Int) × List (Int × Int × Int) × List (ByteArray × Int × Int) × List (ByteArray)))) := fun
  | (t15, t16, l2, l3, l4, l5, l6, l7, l8, l5000) =>
  if (decide (t16 < t15)) = true then
   if ((decide ((0 : Int) ≤ t16)) && (decide (t16 < ((l2.length : Nat) : Int)))) = true then
    if (decide (t16.toNat < l2.length)) = true then
     ((Go.Tx.tables_Tables_Cats_1 (l2.getD t16.toNat ((0 : Int), ((0 : Int), (ByteArray.empty, (ByteArray.empty, (ByteArray.empty, false)))))).1 (l2.getD t16.toNat ((0 : Int), ((0 : Int), (ByteArray.empty, (ByteArray.empty, (ByteArray.empty, false)))))).2.1 (l2.getD t16.toNat ((0 : Int), ((0 : Int), (ByteArray.empty, (ByteArray.empty, (ByteArray.empty, false)))))).2.2.1 (l2.getD t16.toNat ((0 : Int), ((0 : Int), (ByteArray.empty, (ByteArray.empty, (ByteArray.empty, false)))))).2.2.2.1 (l2.getD t16.toNat ((0 : Int), ((0 : Int), (ByteArray.empty, (ByteArray.empty, (ByteArray.empty, false)))))).2.2.2.2.1 (l2.getD t16.toNat ((0 : Int), ((0 : Int), (ByteArray.empty, (ByteArray.empty, (ByteArray.empty, false)))))).2.2.2.2.2 l8)).bind fun (r0_0, r0_1) =>
      if r0_0 = true then
       if (decide (((l5000.length + [((l2.getD t16.toNat ((0 : Int), ((0 : Int), (ByteArray.empty, (ByteArray.empty, (ByteArray.empty, false)))))).1, (l2.getD t16.toNat ((0 : Int), ((0 : Int), (ByteArray.empty, (ByteArray.empty, (ByteArray.empty, false)))))).2.1)].length) * 8) ≤ 140737488355328)) = true then
        some (.inl (t15, ((Go.IntKind.wrap .i64 (t16 + (1 : Int))), (l2, (l3, (l4, (l5, (l6, (l7, (r0_1, (l5000 ++ [((l2.getD t16.toNat ((0 : Int), ((0 : Int), (ByteArray.empty, (ByteArray.empty, (ByteArray.empty, false)))))).1, (l2.getD t16.toNat ((0 : Int), ((0 : Int), (ByteArray.empty, (ByteArray.empty, (ByteArray.empty, false)))))).2.1)])))))))))))
       else
        none
      else
       some (.inl (t15, ((Go.IntKind.wrap .i64 (t16 + (1 : Int))), (l2, (l3, (l4, (l5, (l6, (l7, (r0_1, l5000))))))))))
    else
     none
   else
    none
  else
   some (.inr (l5000, (l2, (l3, (l4, (l5, (l6, (l7, l8))))))))
noncomputable def tables_Tables_ranged_i2 (l2 : List (Int × Int × ByteArray × ByteArray × ByteArray × Bool)) (l3 : List (Int × Int × Int)) (l4 : List (Int × List (Int) × Bool × Bool)) (l5 : List (Int × Int × Int)) (l6 : List (Int × Int × Int)) (l7 : List (ByteArray × Int × Int)) (l8 : List (ByteArray)) : Option ((List (Int × Int) × List (Int × Int × ByteArray × ByteArray × ByteArray × Bool) × List (Int × Int × Int) × List (Int × List (Int) × Bool × Bool) × List (Int × Int × Int) × List (Int × Int × Int) × List (ByteArray × Int × Int) × List (ByteArray))) :=
  ((Go.Sx.runLoop tables_Tables_ranged_i2_b5 (((l2.length : Nat) : Int), ((0 : Int), (l2, (l3, (l4, (l5, (l6, (l7, (l8, []))))))))))).bind fun (r0_0, r0_1, r0_2, r0_3, r0_4, r0_5, r0_6, r0_7) =>
   ((Go.Tx.tables_Merge_i2 r0_0)).bind fun (r1_0, r1_1) =>
    some (r1_0, (r0_1, (r0_2, (r0_3, (r0_4, (r0_5, (r0_6, r0_7)))))))
noncomputable def tables_Tables_Cats (l1 : List (ByteArray)) (l2 : List (Int × Int × ByteArray × ByteArray × ByteArray × Bool)) (l3 : List (Int × Int × Int)) (l4 : List (Int × List (Int) × Bool × Bool)) (l5 : List (Int × Int × Int)) (l6 : List (Int × Int × Int)) (l7 : List (ByteArray × Int × Int)) : Option ((List (Int × Int) × List (ByteArray) × List (Int × Int × ByteArray × ByteArray × ByteArray × Bool) × List (Int × Int × Int) × List (Int × List (Int) × Bool × Bool) × List (Int × Int × Int) × List (Int × Int × Int) × List (ByteArray × Int × Int))) :=
  ((Go.Tx.tables_Tables_ranged_i2 l2 l3 l4 l5 l6 l7 l1)).bind fun (r0_0, r0_1, r0_2, r0_3, r0_4, r0_5, r0_6, r0_7) =>
   some (r0_0, (r0_7, (r0_1, (r0_2, (r0_3, (r0_4, (r0_5, r0_6)))))))
noncomputable def ref08_One_b2 : ByteArray × Int × List (ByteArray) → Option ((ByteArray × Int × List (ByteArray)) ⊕ ((Bool × List (ByteArray)) ⊕ List (ByteArray))) := fun
  | (s1, i5, l0) =>
  if (decide (i5 < ((l0.length : Nat) : Int))) = true then
   if ((decide ((0 : Int) ≤ i5)) && (decide (i5 < ((l0.length : Nat) : Int)))) = true then
    if (decide (i5.toNat < l0.length)) = true then
     if (List.beq (ByteArray.toList (l0.getD i5.toNat ByteArray.empty)) (ByteArray.toList s1)) = true then
      some (.inr (.inl (true, l0)))
     else
      some (.inl (s1, ((Go.IntKind.wrap .i64 (i5 + (1 : Int))), l0)))
    else
     none
   else
    none
  else
   some (.inr (.inr l0))
noncomputable def ref08_One (s1 : ByteArray) (l0 : List (ByteArray)) : Option ((Bool × List (ByteArray))) :=
  ((Go.Sx.runLoop ref08_One_b2 (s1, ((0 : Int), l0)))).bind fun r0_0 =>
   match r0_0 with
   | .inl (r1_0, r1_1) =>
    some (r1_0, r1_1)
   | .inr r2_0 =>
    some (false, r2_0)
noncomputable def tables_Tables_Sides_1 (r0_0 : Int) (r0_1 : Int) (r0_2 : ByteArray) (r0_3 : ByteArray) (r0_4 : ByteArray) (r0_5 : Bool) (l1 : List (ByteArray)) : Option ((Bool × List (ByteArray))) :=
  ((Go.Tx.slices_Contains__ r0_3 l1)).bind fun (r0_0, r0_1) =>
   some (r0_0, r0_1)
noncomputable def tables_Tables_ranged_i3_b5 : Int × Int × List (Int × Int × ByteArray × ByteArray × ByteArray × Bool) × List (Int × Int × Int) × List (Int × List (Int) × Bool × Bool) × List (Int × Int × Int) × List (Int × Int × Int) × List (ByteArray × Int × Int) × List (ByteArray) × List (Int × Int) → Option ((Int × Int × List (Int × Int × ByteArray × ByteArray × ByteArray × Bool) × List (Int × Int × Int) × List (Int × List (Int) × Bool × Bool) × List (Int × Int × Int) × List (Int × Int × Int) × List (ByteArray × Int × Int) × List (ByteArray) × List (Int × Int)) ⊕ ((List (Int × Int) × List (Int × Int × ByteArray × ByteArray × ByteArray × Bool) × List (Int × Int × Int) × List (Int × List (Int) × Bool × Bool) × List (Int × Int × Int) × List (Int × Int × Int) × List (ByteArray × Int × Int) × List (ByteArray)))) := fun
  | (t15, t16, l2, l3, l4, l5, l6, l7, l8, l5000) =>
  if (decide (t16 < t15)) = true then
   if ((decide ((0 : Int) ≤ t16)) && (decide (t16 < ((l2.length : Nat) : Int)))) = true then
    if (decide (t16.toNat < l2.length)) = true then
     ((Go.Tx.tables_Tables_Sides_1 (l2.getD t16.toNat ((0 : Int), ((0 : Int), (ByteArray.empty, (ByteArray.empty, (ByteArray.empty, false)))))).1 (l2.getD t16.toNat ((0 : Int), ((0 : Int), (ByteArray.empty, (ByteArray.empty, (ByteArray.empty, false)))))).2.1 (l2.getD t16.toNat ((0 : Int), ((0 : Int), (ByteArray.empty, (ByteArray.empty, (ByteArray.empty, false)))))).2.2.1 (l2.getD t16.toNat ((0 : Int), ((0 : Int), (ByteArray.empty, (ByteArray.empty, (ByteArray.empty, false)))))).2.2.2.1 (l2.getD t16.toNat ((0 : Int), ((0 : Int), (ByteArray.empty, (ByteArray.empty, (ByteArray.empty, false)))))).2.2.2.2.1 (l2.getD t16.toNat ((0 : Int), ((0 : Int), (ByteArray.empty, (ByteArray.empty, (ByteArray.empty, false)))))).2.2.2.2.2 l8)).bind fun (r0_0, r0_1) =>
      if r0_0 = true then
       if (decide (((l5000.length + [((l2.getD t16.toNat ((0 : Int), ((0 : Int), (ByteArray.empty, (ByteArray.empty, (ByteArray.empty, false)))))).1, (l2.getD t16.toNat ((0 : Int), ((0 : Int), (ByteArray.empty, (ByteArray.empty, (ByteArray.empty, false)))))).2.1)].length) * 8) ≤ 140737488355328)) = true then
        some (.inl (t15, ((Go.IntKind.wrap .i64 (t16 + (1 : Int))), (l2, (l3, (l4, (l5, (l6, (l7, (r0_1, (l5000 ++ [((l2.getD t16.toNat ((0 : Int), ((0 : Int), (ByteArray.empty, (ByteArray.empty, (ByteArray.empty, false)))))).1, (l2.getD t16.toNat ((0 : Int), ((0 : Int), (ByteArray.empty, (ByteArray.empty, (ByteArray.empty, false)))))).2.1)])))))))))))
       else
        none
      else
       some (.inl (t15, ((Go.IntKind.wrap .i64 (t16 + (1 : Int))), (l2, (l3, (l4, (l5, (l6, (l7, (r0_1, l5000))))))))))
    else
     none
   else
    none
  else
   some (.inr (l5000, (l2, (l3, (l4, (l5, (l6, (l7, l8))))))))
noncomputable def tables_Tables_ranged_i3 (l2 : List (Int × Int × ByteArray × ByteArray × ByteArray × Bool)) (l3 : List (Int × Int × Int)) (l4 : List (Int × List (Int) × Bool × Bool)) (l5 : List (Int × Int × Int)) (l6 : List (Int × Int × Int)) (l7 : List (ByteArray × Int × Int)) (l8 : List (ByteArray)) : Option ((List (Int × Int) × List (Int × Int × ByteArray × ByteArray × ByteArray × Bool) × List (Int × Int × Int) × List (Int × List (Int) × Bool × Bool) × List (Int × Int × Int) × List (Int × Int × Int) × List (ByteArray × Int × Int) × List (ByteArray))) :=
  ((Go.Sx.runLoop tables_Tables_ranged_i3_b5 (((l2.length : Nat) : Int), ((0 : Int), (l2, (l3, (l4, (l5, (l6, (l7, (l8, []))))))))))).bind fun (r0_0, r0_1, r0_2, r0_3, r0_4, r0_5, r0_6, r0_7) =>
   ((Go.Tx.tables_Merge_i2 r0_0)).bind fun (r1_0, r1_1) =>
    some (r1_0, (r0_1, (r0_2, (r0_3, (r0_4, (r0_5, (r0_6, r0_7)))))))
noncomputable def tables_Tables_Sides (l1 : List (ByteArray)) (l2 : List (Int × Int × ByteArray × ByteArray × ByteArray × Bool)) (l3 : List (Int × Int × Int)) (l4 : List (Int × List (Int) × Bool × Bool)) (l5 : List (Int × Int × Int)) (l6 : List (Int × Int × Int)) (l7 : List (ByteArray × Int × Int)) : Option ((List (Int × Int) × List (ByteArray) × List (Int × Int × ByteArray × ByteArray × ByteArray × Bool) × List (Int × Int × Int) × List (Int × List (Int) × Bool × Bool) × List (Int × Int × Int) × List (Int × Int × Int) × List (ByteArray × Int × Int))) :=
  ((Go.Tx.tables_Tables_ranged_i3 l2 l3 l4 l5 l6 l7 l1)).bind fun (r0_0, r0_1, r0_2, r0_3, r0_4, r0_5, r0_6, r0_7) =>
   some (r0_0, (r0_7, (r0_1, (r0_2, (r0_3, (r0_4, (r0_5, r0_6)))))))
noncomputable def tables_Tables_Joins_1 (r0_0 : Int) (r0_1 : Int) (r0_2 : ByteArray) (r0_3 : ByteArray) (r0_4 : ByteArray) (r0_5 : Bool) (h0_0 : ByteArray) : Option ((Bool × ByteArray)) :=
  ((Go.Tx.strings_Contains h0_0 r0_4)).bind fun r0_0 =>
   some (r0_0, h0_0)
noncomputable def tables_Tables_ranged_i4_b5 : Int × Int × ByteArray × List (Int × Int × ByteArray × ByteArray × ByteArray × Bool) × List (Int × Int × Int) × List (Int × List (Int) × Bool × Bool) × List (Int × Int × Int) × List (Int × Int × Int) × List (ByteArray × Int × Int) × List (Int × Int) → Option ((Int × Int × ByteArray × List (Int × Int × ByteArray × ByteArray × ByteArray × Bool) × List (Int × Int × Int) × List (Int × List (Int) × Bool × Bool) × List (Int × Int × Int) × List (Int × Int × Int) × List (ByteArray × Int × Int) × List (Int × Int)) ⊕ ((List (Int × Int) × ByteArray × List (Int × Int × ByteArray × ByteArray × ByteArray × Bool) × List (Int × Int × Int) × List (Int × List (Int) × Bool × Bool) × List (Int × Int × Int) × List (Int × Int × Int) × List (ByteArray × Int × Int)))) := fun
  | (t15, t16, h1_0, l2, l3, l4, l5, l6, l7, l5000) =>
  if (decide (t16 < t15)) = true then
   if ((decide ((0 : Int) ≤ t16)) && (decide (t16 < ((l2.length : Nat) : Int)))) = true then
    if (decide (t16.toNat < l2.length)) = true then
     ((Go.Tx.tables_Tables_Joins_1 (l2.getD t16.toNat ((0 : Int), ((0 : Int), (ByteArray.empty, (ByteArray.empty, (ByteArray.empty, false)))))).1 (l2.getD t16.toNat ((0 : Int), ((0 : Int), (ByteArray.empty, (ByteArray.empty, (ByteArray.empty, false)))))).2.1 (l2.getD t16.toNat ((0 : Int), ((0 : Int), (ByteArray.empty, (ByteArray.empty, (ByteArray.empty, false)))))).2.2.1 (l2.getD t16.toNat ((0 : Int), ((0 : Int), (ByteArray.empty, (ByteArray.empty, (ByteArray.empty, false)))))).2.2.2.1 (l2.getD t16.toNat ((0 : Int), ((0 : Int), (ByteArray.empty, (ByteArray.empty, (ByteArray.empty, false)))))).2.2.2.2.1 (l2.getD t16.toNat ((0 : Int), ((0 : Int), (ByteArray.empty, (ByteArray.empty, (ByteArray.empty, false)))))).2.2.2.2.2 h1_0)).bind fun (r0_0, r0_1) =>
      if r0_0 = true then
       if (decide (((l5000.length + [((l2.getD t16.toNat ((0 : Int), ((0 : Int), (ByteArray.empty, (ByteArray.empty, (ByteArray.empty, false)))))).1, (l2.getD t16.toNat ((0 : Int), ((0 : Int), (ByteArray.empty, (ByteArray.empty, (ByteArray.empty, false)))))).2.1)].length) * 8) ≤ 140737488355328)) = true then
        some (.inl (t15, ((Go.IntKind.wrap .i64 (t16 + (1 : Int))), (r0_1, (l2, (l3, (l4, (l5, (l6, (l7, (l5000 ++ [((l2.getD t16.toNat ((0 : Int), ((0 : Int), (ByteArray.empty, (ByteArray.empty, (ByteArray.empty, false)))))).1, (l2.getD t16.toNat ((0 : Int), ((0 : Int), (ByteArray.empty, (ByteArray.empty, (ByteArray.empty, false)))))).2.1)])))))))))))
       else
        none
      else
       some (.inl (t15, ((Go.IntKind.wrap .i64 (t16 + (1 : Int))), (r0_1, (l2, (l3, (l4, (l5, (l6, (l7, l5000))))))))))
    else
     none
   else
    none
  else
   some (.inr (l5000, (h1_0, (l2, (l3, (l4, (l5, (l6, l7))))))))
noncomputable def tables_Tables_ranged_i4 (h1_0 : ByteArray) (l2 : List (Int × Int × ByteArray × ByteArray × ByteArray × Bool)) (l3 : List (Int × Int × Int)) (l4 : List (Int × List (Int) × Bool × Bool)) (l5 : List (Int × Int × Int)) (l6 : List (Int × Int × Int)) (l7 : List (ByteArray × Int × Int)) : Option ((List (Int × Int) × ByteArray × List (Int × Int × ByteArray × ByteArray × ByteArray × Bool) × List (Int × Int × Int) × List (Int × List (Int) × Bool × Bool) × List (Int × Int × Int) × List (Int × Int × Int) × List (ByteArray × Int × Int))) :=
  ((Go.Sx.runLoop tables_Tables_ranged_i4_b5 (((l2.length : Nat) : Int), ((0 : Int), (h1_0, (l2, (l3, (l4, (l5, (l6, (l7, []))))))))))).bind fun (r0_0, r0_1, r0_2, r0_3, r0_4, r0_5, r0_6, r0_7) =>
   ((Go.Tx.tables_Merge_i2 r0_0)).bind fun (r1_0, r1_1) =>
    some (r1_0, (r0_1, (r0_2, (r0_3, (r0_4, (r0_5, (r0_6, r0_7)))))))
noncomputable def tables_Tables_Joins (names1 : ByteArray) (l1 : List (Int × Int × ByteArray × ByteArray × ByteArray × Bool)) (l2 : List (Int × Int × Int)) (l3 : List (Int × List (Int) × Bool × Bool)) (l4 : List (Int × Int × Int)) (l5 : List (Int × Int × Int)) (l6 : List (ByteArray × Int × Int)) : Option ((List (Int × Int) × List (Int × Int × ByteArray × ByteArray × ByteArray × Bool) × List (Int × Int × Int) × List (Int × List (Int) × Bool × Bool) × List (Int × Int × Int) × List (Int × Int × Int) × List (ByteArray × Int × Int))) :=
  ((Go.Tx.tables_Tables_ranged_i4 names1 l1 l2 l3 l4 l5 l6)).bind fun (r0_0, r0_1, r0_2, r0_3, r0_4, r0_5, r0_6, r0_7) =>
   some (r0_0, (r0_2, (r0_3, (r0_4, (r0_5, (r0_6, r0_7))))))
noncomputable def ref08_Letter_b2 : ByteArray × ByteArray × Int → Option ((ByteArray × ByteArray × Int) ⊕ (Bool ⊕ Unit)) := fun
  | (l0, s1, i5) =>
  if (decide (i5 < ((l0.size : Nat) : Int))) = true then
   if (((decide ((0 : Int) ≤ i5)) && (decide (i5 ≤ (Go.IntKind.wrap .i64 (i5 + (1 : Int)))))) && (decide ((Go.IntKind.wrap .i64 (i5 + (1 : Int))) ≤ ((l0.size : Nat) : Int)))) = true then
    if (List.beq (ByteArray.toList (ByteArray.extract l0 i5.toNat (Go.IntKind.wrap .i64 (i5 + (1 : Int))).toNat)) (ByteArray.toList s1)) = true then
     some (.inr (.inl true))
    else
     some (.inl (l0, (s1, (Go.IntKind.wrap .i64 (i5 + (1 : Int))))))
   else
    none
  else
   some (.inr (.inr ()))
noncomputable def ref08_Letter (l0 : ByteArray) (s1 : ByteArray) : Option (Bool) :=
  ((Go.Sx.runLoop ref08_Letter_b2 (l0, (s1, (0 : Int))))).bind fun r0_0 =>
   match r0_0 with
   | .inl r1_0 =>
    some r1_0
   | .inr _ =>
    some false
noncomputable def tables_Tables_Set_b5 : ByteArray × Int × Int × List (ByteArray × Int × Int) × List (Int × Int × ByteArray × ByteArray × ByteArray × Bool) × List (Int × Int × Int) × List (Int × List (Int) × Bool × Bool) × List (Int × Int × Int) × List (Int × Int × Int) × List (Int × Int) → Option ((ByteArray × Int × Int × List (ByteArray × Int × Int) × List (Int × Int × ByteArray × ByteArray × ByteArray × Bool) × List (Int × Int × Int) × List (Int × List (Int) × Bool × Bool) × List (Int × Int × Int) × List (Int × Int × Int) × List (Int × Int)) ⊕ ((List (Int × Int) × List (ByteArray × Int × Int) × List (Int × Int × ByteArray × ByteArray × ByteArray × Bool) × List (Int × Int × Int) × List (Int × List (Int) × Bool × Bool) × List (Int × Int × Int) × List (Int × Int × Int)))) := fun
  | (name1, t15, t16, l6, l1, l2, l3, l4, l5, l5000) =>
  if (decide (t16 < t15)) = true then
   if ((decide ((0 : Int) ≤ t16)) && (decide (t16 < ((l6.length : Nat) : Int)))) = true then
    if (decide (t16.toNat < l6.length)) = true then
     if (List.beq (ByteArray.toList (l6.getD t16.toNat (ByteArray.empty, ((0 : Int), (0 : Int)))).1) (ByteArray.toList name1)) = true then
      if (decide (((l5000.length + [((l6.getD t16.toNat (ByteArray.empty, ((0 : Int), (0 : Int)))).2.1, (l6.getD t16.toNat (ByteArray.empty, ((0 : Int), (0 : Int)))).2.2)].length) * 8) ≤ 140737488355328)) = true then
       some (.inl (name1, (t15, ((Go.IntKind.wrap .i64 (t16 + (1 : Int))), (l6, (l1, (l2, (l3, (l4, (l5, (l5000 ++ [((l6.getD t16.toNat (ByteArray.empty, ((0 : Int), (0 : Int)))).2.1, (l6.getD t16.toNat (ByteArray.empty, ((0 : Int), (0 : Int)))).2.2)])))))))))))
      else
       none
     else
      some (.inl (name1, (t15, ((Go.IntKind.wrap .i64 (t16 + (1 : Int))), (l6, (l1, (l2, (l3, (l4, (l5, l5000))))))))))
    else
     none
   else
    none
  else
   some (.inr (l5000, (l6, (l1, (l2, (l3, (l4, l5)))))))
noncomputable def tables_Tables_Set (name1 : ByteArray) (l1 : List (Int × Int × ByteArray × ByteArray × ByteArray × Bool)) (l2 : List (Int × Int × Int)) (l3 : List (Int × List (Int) × Bool × Bool)) (l4 : List (Int × Int × Int)) (l5 : List (Int × Int × Int)) (l6 : List (ByteArray × Int × Int)) : Option ((List (Int × Int) × List (ByteArray × Int × Int) × List (Int × Int × ByteArray × ByteArray × ByteArray × Bool) × List (Int × Int × Int) × List (Int × List (Int) × Bool × Bool) × List (Int × Int × Int) × List (Int × Int × Int))) :=
  ((Go.Sx.runLoop tables_Tables_Set_b5 (name1, (((l6.length : Nat) : Int), ((0 : Int), (l6, (l1, (l2, (l3, (l4, (l5, []))))))))))).bind fun (r0_0, r0_1, r0_2, r0_3, r0_4, r0_5, r0_6) =>
   ((Go.Tx.tables_Merge_i2 r0_0)).bind fun (r1_0, r1_1) =>
    some (r1_0, (r0_1, (r0_2, (r0_3, (r0_4, (r0_5, r0_6))))))
noncomputable def ref08_Tables_Set_b2 : ByteArray × Int × Int × List (Int × Int × ByteArray × ByteArray × ByteArray × Bool) × List (Int × Int × Int) × List (Int × List (Int) × Bool × Bool) × List (Int × Int × Int) × List (Int × Int × Int) × List (ByteArray × Int × Int) → Option ((ByteArray × Int × Int × List (Int × Int × ByteArray × ByteArray × ByteArray × Bool) × List (Int × Int × Int) × List (Int × List (Int) × Bool × Bool) × List (Int × Int × Int) × List (Int × Int × Int) × List (ByteArray × Int × Int)) ⊕ ((Bool × List (Int × Int × ByteArray × ByteArray × ByteArray × Bool) × List (Int × Int × Int) × List (Int × List (Int) × Bool × Bool) × List (Int × Int × Int) × List (Int × Int × Int) × List (ByteArray × Int × Int)) ⊕ (List (Int × Int × ByteArray × ByteArray × ByteArray × Bool) × List (Int × Int × Int) × List (Int × List (Int) × Bool × Bool) × List (Int × Int × Int) × List (Int × Int × Int) × List (ByteArray × Int × Int)))) := fun
  | (name1, p2, i7, l0, l1, l2, l3, l4, l5) =>
  if (decide (i7 < ((l5.length : Nat) : Int))) = true then
   if ((decide ((0 : Int) ≤ i7)) && (decide (i7 < ((l5.length : Nat) : Int)))) = true then
    if (decide (i7.toNat < l5.length)) = true then
     if (List.beq (ByteArray.toList (l5.getD i7.toNat (ByteArray.empty, ((0 : Int), (0 : Int)))).1) (ByteArray.toList name1)) = true then
      if ((decide ((0 : Int) ≤ i7)) && (decide (i7 < ((l5.length : Nat) : Int)))) = true then
       if (decide (i7.toNat < l5.length)) = true then
        ((Go.Tx.ref06_Has (l5.getD i7.toNat (ByteArray.empty, ((0 : Int), (0 : Int)))).2.1 (l5.getD i7.toNat (ByteArray.empty, ((0 : Int), (0 : Int)))).2.2 p2)).bind fun r0_0 =>
         if r0_0 = true then
          some (.inr (.inl (true, (l0, (l1, (l2, (l3, (l4, l5))))))))
         else
          some (.inl (name1, (p2, ((Go.IntKind.wrap .i64 (i7 + (1 : Int))), (l0, (l1, (l2, (l3, (l4, l5)))))))))
       else
        none
      else
       none
     else
      some (.inl (name1, (p2, ((Go.IntKind.wrap .i64 (i7 + (1 : Int))), (l0, (l1, (l2, (l3, (l4, l5)))))))))
    else
     none
   else
    none
  else
   some (.inr (.inr (l0, (l1, (l2, (l3, (l4, l5)))))))
noncomputable def ref08_Tables_Set (name1 : ByteArray) (p2 : Int) (l0 : List (Int × Int × ByteArray × ByteArray × ByteArray × Bool)) (l1 : List (Int × Int × Int)) (l2 : List (Int × List (Int) × Bool × Bool)) (l3 : List (Int × Int × Int)) (l4 : List (Int × Int × Int)) (l5 : List (ByteArray × Int × Int)) : Option ((Bool × List (Int × Int × ByteArray × ByteArray × ByteArray × Bool) × List (Int × Int × Int) × List (Int × List (Int) × Bool × Bool) × List (Int × Int × Int) × List (Int × Int × Int) × List (ByteArray × Int × Int))) :=
  ((Go.Sx.runLoop ref08_Tables_Set_b2 (name1, (p2, ((0 : Int), (l0, (l1, (l2, (l3, (l4, l5)))))))))).bind fun r0_0 =>
   match r0_0 with
   | .inl (r1_0, r1_1, r1_2, r1_3, r1_4, r1_5, r1_6) =>
    some (r1_0, (r1_1, (r1_2, (r1_3, (r1_4, (r1_5, r1_6))))))
   | .inr (r2_0, r2_1, r2_2, r2_3, r2_4, r2_5) =>
    some (false, (r2_0, (r2_1, (r2_2, (r2_3, (r2_4, r2_5))))))
noncomputable def tables_Tables_Alike_b5 : Int × Int × List (Int × List (Int) × Bool × Bool) × List (Int × Int × ByteArray × ByteArray × ByteArray × Bool) × List (Int × Int × Int) × List (Int × Int × Int) × List (Int × Int × Int) × List (ByteArray × Int × Int) × List (Int × Int) → Option ((Int × Int × List (Int × List (Int) × Bool × Bool) × List (Int × Int × ByteArray × ByteArray × ByteArray × Bool) × List (Int × Int × Int) × List (Int × Int × Int) × List (Int × Int × Int) × List (ByteArray × Int × Int) × List (Int × Int)) ⊕ ((List (Int × Int) × List (Int × List (Int) × Bool × Bool) × List (Int × Int × ByteArray × ByteArray × ByteArray × Bool) × List (Int × Int × Int) × List (Int × Int × Int) × List (Int × Int × Int) × List (ByteArray × Int × Int)))) := fun
  | (t13, t14, l3, l1, l2, l4, l5, l6, l5000) =>
  if (decide (t14 < t13)) = true then
   if ((decide ((0 : Int) ≤ t14)) && (decide (t14 < ((l3.length : Nat) : Int)))) = true then
    if (decide (t14.toNat < l3.length)) = true then
     if (l3.getD t14.toNat ((0 : Int), ([], (false, false)))).2.2.1 = true then
      if (decide (((l5000.length + [((l3.getD t14.toNat ((0 : Int), ([], (false, false)))).1, (l3.getD t14.toNat ((0 : Int), ([], (false, false)))).1)].length) * 8) ≤ 140737488355328)) = true then
       some (.inl (t13, ((Go.IntKind.wrap .i64 (t14 + (1 : Int))), (l3, (l1, (l2, (l4, (l5, (l6, (l5000 ++ [((l3.getD t14.toNat ((0 : Int), ([], (false, false)))).1, (l3.getD t14.toNat ((0 : Int), ([], (false, false)))).1)]))))))))))
      else
       none
     else
      some (.inl (t13, ((Go.IntKind.wrap .i64 (t14 + (1 : Int))), (l3, (l1, (l2, (l4, (l5, (l6, l5000)))))))))
    else
     none
   else
    none
  else
   some (.inr (l5000, (l3, (l1, (l2, (l4, (l5, l6)))))))
noncomputable def tables_Tables_Alike (l1 : List (Int × Int × ByteArray × ByteArray × ByteArray × Bool)) (l2 : List (Int × Int × Int)) (l3 : List (Int × List (Int) × Bool × Bool)) (l4 : List (Int × Int × Int)) (l5 : List (Int × Int × Int)) (l6 : List (ByteArray × Int × Int)) : Option ((List (Int × Int) × List (Int × List (Int) × Bool × Bool) × List (Int × Int × ByteArray × ByteArray × ByteArray × Bool) × List (Int × Int × Int) × List (Int × Int × Int) × List (Int × Int × Int) × List (ByteArray × Int × Int))) :=
  ((Go.Sx.runLoop tables_Tables_Alike_b5 (((l3.length : Nat) : Int), ((0 : Int), (l3, (l1, (l2, (l4, (l5, (l6, [])))))))))).bind fun (r0_0, r0_1, r0_2, r0_3, r0_4, r0_5, r0_6) =>
   ((Go.Tx.tables_Merge_i2 r0_0)).bind fun (r1_0, r1_1) =>
    some (r1_0, (r0_1, (r0_2, (r0_3, (r0_4, (r0_5, r0_6))))))
end Go.Tx
