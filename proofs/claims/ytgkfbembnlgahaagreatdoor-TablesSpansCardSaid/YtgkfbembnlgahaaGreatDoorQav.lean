/- Part 22 of the proof of the statement that the last part names; it asks for no condition of its own. Here: GenRgA. -/
import Derived.Test.YtgkfbembnlgahaaGreatDoorQat
set_option linter.all false
set_option linter.unusedVariables false
set_option maxRecDepth 100000
namespace Go.Tx
open Go Go.Sx
noncomputable def ref08_Tables_Range_b2 : Int × Int × Int × Int × ByteArray × ByteArray × ByteArray × Bool × List (Int × Int × ByteArray × ByteArray × ByteArray × Bool) × List (Int × Int × Int) × List (Int × List (Int) × Bool × Bool) × List (Int × Int × Int) × List (Int × Int × Int) × List (ByteArray × Int × Int) → Option ((Int × Int × Int × Int × ByteArray × ByteArray × ByteArray × Bool × List (Int × Int × ByteArray × ByteArray × ByteArray × Bool) × List (Int × Int × Int) × List (Int × List (Int) × Bool × Bool) × List (Int × Int × Int) × List (Int × Int × Int) × List (ByteArray × Int × Int)) ⊕ ((Int × Int × ByteArray × ByteArray × ByteArray × Bool × List (Int × Int × ByteArray × ByteArray × ByteArray × Bool) × List (Int × Int × Int) × List (Int × List (Int) × Bool × Bool) × List (Int × Int × Int) × List (Int × Int × Int) × List (ByteArray × Int × Int)) ⊕ (Int × Int × ByteArray × ByteArray × ByteArray × Bool × List (Int × Int × ByteArray × ByteArray × ByteArray × Bool) × List (Int × Int × Int) × List (Int × List (Int) × Bool × Bool) × List (Int × Int × Int) × List (Int × Int × Int) × List (ByteArray × Int × Int)))) := fun
  | (p1, i6, h104_0, h104_1, h104_2, h104_3, h104_4, h104_5, l0, l1, l2, l3, l4, l5) =>
  if (decide (i6 < ((l0.length : Nat) : Int))) = true then
   if ((decide ((0 : Int) ≤ i6)) && (decide (i6 < ((l0.length : Nat) : Int)))) = true then
    if (decide (i6.toNat < l0.length)) = true then
     ((Go.Tx.ref06_Has (l0.getD i6.toNat ((0 : Int), ((0 : Int), (ByteArray.empty, (ByteArray.empty, (ByteArray.empty, false)))))).1 (l0.getD i6.toNat ((0 : Int), ((0 : Int), (ByteArray.empty, (ByteArray.empty, (ByteArray.empty, false)))))).2.1 p1)).bind fun r0_0 =>
      if r0_0 = true then
       if ((decide ((0 : Int) ≤ i6)) && (decide (i6 < ((l0.length : Nat) : Int)))) = true then
        if (decide (i6.toNat < l0.length)) = true then
         some (.inr (.inl ((l0.getD i6.toNat ((0 : Int), ((0 : Int), (ByteArray.empty, (ByteArray.empty, (ByteArray.empty, false)))))).1, ((l0.getD i6.toNat ((0 : Int), ((0 : Int), (ByteArray.empty, (ByteArray.empty, (ByteArray.empty, false)))))).2.1, ((l0.getD i6.toNat ((0 : Int), ((0 : Int), (ByteArray.empty, (ByteArray.empty, (ByteArray.empty, false)))))).2.2.1, ((l0.getD i6.toNat ((0 : Int), ((0 : Int), (ByteArray.empty, (ByteArray.empty, (ByteArray.empty, false)))))).2.2.2.1, ((l0.getD i6.toNat ((0 : Int), ((0 : Int), (ByteArray.empty, (ByteArray.empty, (ByteArray.empty, false)))))).2.2.2.2.1, ((l0.getD i6.toNat ((0 : Int), ((0 : Int), (ByteArray.empty, (ByteArray.empty, (ByteArray.empty, false)))))).2.2.2.2.2, (l0, (l1, (l2, (l3, (l4, l5)))))))))))))
        else
         none
       else
        none
      else
       some (.inl (p1, ((Go.IntKind.wrap .i64 (i6 + (1 : Int))), (h104_0, (h104_1, (h104_2, (h104_3, (h104_4, (h104_5, (l0, (l1, (l2, (l3, (l4, l5))))))))))))))
    else
     none
   else
    none
  else
   some (.inr (.inr (h104_0, (h104_1, (h104_2, (h104_3, (h104_4, (h104_5, (l0, (l1, (l2, (l3, (l4, l5)))))))))))))
noncomputable def ref08_Tables_Range (p1 : Int) (l0 : List (Int × Int × ByteArray × ByteArray × ByteArray × Bool)) (l1 : List (Int × Int × Int)) (l2 : List (Int × List (Int) × Bool × Bool)) (l3 : List (Int × Int × Int)) (l4 : List (Int × Int × Int)) (l5 : List (ByteArray × Int × Int)) : Option ((Int × Int × ByteArray × ByteArray × ByteArray × Bool × List (Int × Int × ByteArray × ByteArray × ByteArray × Bool) × List (Int × Int × Int) × List (Int × List (Int) × Bool × Bool) × List (Int × Int × Int) × List (Int × Int × Int) × List (ByteArray × Int × Int)) ⊕ (Int × Int × ByteArray × ByteArray × ByteArray × Bool × List (Int × Int × ByteArray × ByteArray × ByteArray × Bool) × List (Int × Int × Int) × List (Int × List (Int) × Bool × Bool) × List (Int × Int × Int) × List (Int × Int × Int) × List (ByteArray × Int × Int))) :=
  ((Go.Sx.runLoop ref08_Tables_Range_b2 (p1, ((0 : Int), ((0 : Int), ((0 : Int), (ByteArray.empty, (ByteArray.empty, (ByteArray.empty, (false, (l0, (l1, (l2, (l3, (l4, l5))))))))))))))).bind fun r0_0 =>
   match r0_0 with
   | .inl (r1_0, r1_1, r1_2, r1_3, r1_4, r1_5, r1_6, r1_7, r1_8, r1_9, r1_10, r1_11) =>
    some (.inl (r1_0, (r1_1, (r1_2, (r1_3, (r1_4, (r1_5, (r1_6, (r1_7, (r1_8, (r1_9, (r1_10, r1_11))))))))))))
   | .inr (r2_0, r2_1, r2_2, r2_3, r2_4, r2_5, r2_6, r2_7, r2_8, r2_9, r2_10, r2_11) =>
    some (.inr ((0 : Int), ((0 : Int), (ByteArray.empty, (ByteArray.empty, (ByteArray.empty, (false, (r2_6, (r2_7, (r2_8, (r2_9, (r2_10, r2_11))))))))))))
end Go.Tx
