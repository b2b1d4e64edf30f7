/- Part 9 of the proof of the statement that the last part names; it asks for no condition of its own. Here: GenMr0. -/
import Derived.Test.YtgkfbembnlgahaaGreatDoorQae
set_option linter.all false
set_option maxRecDepth 100000
namespace Go.Ts
open Go Go.Sx
noncomputable def cmp_isNaN_uint32 (x0 : Int) : Option (Bool) :=
  some (x0 != x0)
noncomputable def cmp_Compare_uint32 (x0 : Int) (y1 : Int) : Option (Int) :=
  ((Go.Ts.cmp_isNaN_uint32 x0)).bind fun r0_0 =>
   ((Go.Ts.cmp_isNaN_uint32 y1)).bind fun r1_0 =>
    if r0_0 = true then
     if r1_0 = true then
      some (0 : Int)
     else
      some (-1 : Int)
    else
     if r1_0 = true then
      some (1 : Int)
     else
      if (decide (x0 < y1)) = true then
       some (-1 : Int)
      else
       if (decide (x0 > y1)) = true then
        some (1 : Int)
       else
        some (0 : Int)
noncomputable def cmp_Or_int_b3 : Int × Int × List (Int) → Option ((Int × Int × List (Int)) ⊕ ((Int × List (Int)) ⊕ List (Int))) := fun
  | (t7, t8, l0) =>
  if (decide (t8 < t7)) = true then
   if ((decide ((0 : Int) ≤ t8)) && (decide (t8 < ((l0.length : Nat) : Int)))) = true then
    if (decide (t8.toNat < l0.length)) = true then
     if ((l0.getD t8.toNat (0 : Int)) != (0 : Int)) = true then
      some (.inr (.inl ((l0.getD t8.toNat (0 : Int)), l0)))
     else
      some (.inl (t7, ((Go.IntKind.wrap .i64 (t8 + (1 : Int))), l0)))
    else
     none
   else
    none
  else
   some (.inr (.inr l0))
noncomputable def cmp_Or_int (l0 : List (Int)) : Option ((Int × List (Int))) :=
  ((Go.Sx.runLoop cmp_Or_int_b3 (((l0.length : Nat) : Int), ((0 : Int), l0)))).bind fun r0_0 =>
   match r0_0 with
   | .inl (r1_0, r1_1) =>
    some (r1_0, r1_1)
   | .inr r2_0 =>
    some ((0 : Int), r2_0)
noncomputable def tables_Merge_2 (a0_0 : Int) (a0_1 : Int) (b1_0 : Int) (b1_1 : Int) : Option (Int) :=
  ((Go.Ts.cmp_Compare_uint32 a0_0 b1_0)).bind fun r0_0 =>
   ((Go.Ts.cmp_Compare_uint32 a0_1 b1_1)).bind fun r1_0 =>
    ((Go.Ts.cmp_Or_int [r0_0, r1_0])).bind fun (r2_0, r2_1) =>
     some r2_0
noncomputable def tables_Merge_1 (s0_0 : Int) (s0_1 : Int) : Option (Bool) :=
  some (decide (s0_0 > s0_1))
end Go.Ts
