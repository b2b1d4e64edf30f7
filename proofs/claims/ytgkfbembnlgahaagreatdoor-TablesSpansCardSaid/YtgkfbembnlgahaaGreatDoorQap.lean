/- Part 16 of the proof of the statement that the last part names; it asks for no condition of its own. Here: GenMrA. -/
import Derived.Test.YtgkfbembnlgahaaGreatDoorQae
import Derived.Test.YtgkfbembnlgahaaGreatDoorQao
import Derived.Test.YtgkfbembnlgahaaGreatDoorQag
import Derived.Test.YtgkfbembnlgahaaGreatDoorQan
set_option linter.all false
set_option linter.unusedVariables false
set_option maxRecDepth 100000
namespace Go.Tx
open Go Go.Sx
noncomputable def tables_Merge_b5 : Int × Int × List (Int × Int) × List (Int × Int) × List (Int × Int) → Option ((Int × Int × List (Int × Int) × List (Int × Int) × List (Int × Int)) ⊕ ((List (Int × Int) × List (Int × Int)))) := fun
  | (t13, t14, l1080, l0, l5000) =>
  if (decide (t14 < t13)) = true then
   if ((decide ((0 : Int) ≤ t14)) && (decide (t14 < ((l1080.length : Nat) : Int)))) = true then
    if (decide (t14.toNat < l1080.length)) = true then
     if (decide ((Go.IntKind.wrap .i64 (((l5000.length : Nat) : Int) - (1 : Int))) ≥ (0 : Int))) = true then
      if ((decide ((0 : Int) ≤ (Go.IntKind.wrap .i64 (((l5000.length : Nat) : Int) - (1 : Int))))) && (decide ((Go.IntKind.wrap .i64 (((l5000.length : Nat) : Int) - (1 : Int))) < ((l5000.length : Nat) : Int)))) = true then
       if (decide ((Go.IntKind.wrap .i64 (((l5000.length : Nat) : Int) - (1 : Int))).toNat < l5000.length)) = true then
        if (decide ((l5000.getD (Go.IntKind.wrap .i64 (((l5000.length : Nat) : Int) - (1 : Int))).toNat ((0 : Int), (0 : Int))).2 = (4294967295 : Int))) = true then
         if ((decide ((0 : Int) ≤ (Go.IntKind.wrap .i64 (((l5000.length : Nat) : Int) - (1 : Int))))) && (decide ((Go.IntKind.wrap .i64 (((l5000.length : Nat) : Int) - (1 : Int))) < ((l5000.length : Nat) : Int)))) = true then
          if (decide ((Go.IntKind.wrap .i64 (((l5000.length : Nat) : Int) - (1 : Int))).toNat < l5000.length)) = true then
           if ((decide ((0 : Int) ≤ (Go.IntKind.wrap .i64 (((l5000.length : Nat) : Int) - (1 : Int))))) && (decide ((Go.IntKind.wrap .i64 (((l5000.length : Nat) : Int) - (1 : Int))) < ((l5000.length : Nat) : Int)))) = true then
            if (decide ((Go.IntKind.wrap .i64 (((l5000.length : Nat) : Int) - (1 : Int))).toNat < l5000.length)) = true then
             some (.inl (t13, ((Go.IntKind.wrap .i64 (t14 + (1 : Int))), (l1080, (l0, (List.set l5000 (Go.IntKind.wrap .i64 (((l5000.length : Nat) : Int) - (1 : Int))).toNat ((l5000.getD (Go.IntKind.wrap .i64 (((l5000.length : Nat) : Int) - (1 : Int))).toNat ((0 : Int), (0 : Int))).1, (if ((l1080.getD t14.toNat ((0 : Int), (0 : Int))).2 > (l5000.getD (Go.IntKind.wrap .i64 (((l5000.length : Nat) : Int) - (1 : Int))).toNat ((0 : Int), (0 : Int))).2) then (l1080.getD t14.toNat ((0 : Int), (0 : Int))).2 else (l5000.getD (Go.IntKind.wrap .i64 (((l5000.length : Nat) : Int) - (1 : Int))).toNat ((0 : Int), (0 : Int))).2))))))))
            else
             none
           else
            none
          else
           none
         else
          none
        else
         if ((decide ((0 : Int) ≤ (Go.IntKind.wrap .i64 (((l5000.length : Nat) : Int) - (1 : Int))))) && (decide ((Go.IntKind.wrap .i64 (((l5000.length : Nat) : Int) - (1 : Int))) < ((l5000.length : Nat) : Int)))) = true then
          if (decide ((Go.IntKind.wrap .i64 (((l5000.length : Nat) : Int) - (1 : Int))).toNat < l5000.length)) = true then
           if (decide ((l1080.getD t14.toNat ((0 : Int), (0 : Int))).1 ≤ (Go.IntKind.wrap .u32 ((l5000.getD (Go.IntKind.wrap .i64 (((l5000.length : Nat) : Int) - (1 : Int))).toNat ((0 : Int), (0 : Int))).2 + (1 : Int))))) = true then
            if ((decide ((0 : Int) ≤ (Go.IntKind.wrap .i64 (((l5000.length : Nat) : Int) - (1 : Int))))) && (decide ((Go.IntKind.wrap .i64 (((l5000.length : Nat) : Int) - (1 : Int))) < ((l5000.length : Nat) : Int)))) = true then
             if (decide ((Go.IntKind.wrap .i64 (((l5000.length : Nat) : Int) - (1 : Int))).toNat < l5000.length)) = true then
              if ((decide ((0 : Int) ≤ (Go.IntKind.wrap .i64 (((l5000.length : Nat) : Int) - (1 : Int))))) && (decide ((Go.IntKind.wrap .i64 (((l5000.length : Nat) : Int) - (1 : Int))) < ((l5000.length : Nat) : Int)))) = true then
               if (decide ((Go.IntKind.wrap .i64 (((l5000.length : Nat) : Int) - (1 : Int))).toNat < l5000.length)) = true then
                some (.inl (t13, ((Go.IntKind.wrap .i64 (t14 + (1 : Int))), (l1080, (l0, (List.set l5000 (Go.IntKind.wrap .i64 (((l5000.length : Nat) : Int) - (1 : Int))).toNat ((l5000.getD (Go.IntKind.wrap .i64 (((l5000.length : Nat) : Int) - (1 : Int))).toNat ((0 : Int), (0 : Int))).1, (if ((l1080.getD t14.toNat ((0 : Int), (0 : Int))).2 > (l5000.getD (Go.IntKind.wrap .i64 (((l5000.length : Nat) : Int) - (1 : Int))).toNat ((0 : Int), (0 : Int))).2) then (l1080.getD t14.toNat ((0 : Int), (0 : Int))).2 else (l5000.getD (Go.IntKind.wrap .i64 (((l5000.length : Nat) : Int) - (1 : Int))).toNat ((0 : Int), (0 : Int))).2))))))))
               else
                none
              else
               none
             else
              none
            else
             none
           else
            if (decide (((l5000.length + [((l1080.getD t14.toNat ((0 : Int), (0 : Int))).1, (l1080.getD t14.toNat ((0 : Int), (0 : Int))).2)].length) * 8) ≤ 140737488355328)) = true then
             some (.inl (t13, ((Go.IntKind.wrap .i64 (t14 + (1 : Int))), (l1080, (l0, (l5000 ++ [((l1080.getD t14.toNat ((0 : Int), (0 : Int))).1, (l1080.getD t14.toNat ((0 : Int), (0 : Int))).2)]))))))
            else
             none
          else
           none
         else
          none
       else
        none
      else
       none
     else
      if (decide (((l5000.length + [((l1080.getD t14.toNat ((0 : Int), (0 : Int))).1, (l1080.getD t14.toNat ((0 : Int), (0 : Int))).2)].length) * 8) ≤ 140737488355328)) = true then
       some (.inl (t13, ((Go.IntKind.wrap .i64 (t14 + (1 : Int))), (l1080, (l0, (l5000 ++ [((l1080.getD t14.toNat ((0 : Int), (0 : Int))).1, (l1080.getD t14.toNat ((0 : Int), (0 : Int))).2)]))))))
      else
       none
    else
     none
   else
    none
  else
   some (.inr (l5000, l0))
noncomputable def tables_Merge (l0 : List (Int × Int)) : Option ((List (Int × Int) × List (Int × Int))) :=
  ((Go.Tx.slices_CloneR l0)).bind fun r0_0 =>
   ((Go.Tx.slices_DeleteFunc r0_0)).bind fun r1_0 =>
    ((Go.Tx.slices_SortFunc r1_0)).bind fun r2_0 =>
     ((Go.Sx.runLoop tables_Merge_b5 (((r2_0.length : Nat) : Int), ((0 : Int), (r2_0, (l0, [])))))).bind fun (r3_0, r3_1) =>
      some (r3_0, r3_1)
noncomputable def tables_Merge_i2_b5 : Int × Int × List (Int × Int) × List (Int × Int) × List (Int × Int) → Option ((Int × Int × List (Int × Int) × List (Int × Int) × List (Int × Int)) ⊕ ((List (Int × Int) × List (Int × Int)))) := fun
  | (t13, t14, l1080, l0, l5000) =>
  if (decide (t14 < t13)) = true then
   if ((decide ((0 : Int) ≤ t14)) && (decide (t14 < ((l1080.length : Nat) : Int)))) = true then
    if (decide (t14.toNat < l1080.length)) = true then
     if (decide ((Go.IntKind.wrap .i64 (((l5000.length : Nat) : Int) - (1 : Int))) ≥ (0 : Int))) = true then
      if ((decide ((0 : Int) ≤ (Go.IntKind.wrap .i64 (((l5000.length : Nat) : Int) - (1 : Int))))) && (decide ((Go.IntKind.wrap .i64 (((l5000.length : Nat) : Int) - (1 : Int))) < ((l5000.length : Nat) : Int)))) = true then
       if (decide ((Go.IntKind.wrap .i64 (((l5000.length : Nat) : Int) - (1 : Int))).toNat < l5000.length)) = true then
        if (decide ((l5000.getD (Go.IntKind.wrap .i64 (((l5000.length : Nat) : Int) - (1 : Int))).toNat ((0 : Int), (0 : Int))).2 = (4294967295 : Int))) = true then
         if ((decide ((0 : Int) ≤ (Go.IntKind.wrap .i64 (((l5000.length : Nat) : Int) - (1 : Int))))) && (decide ((Go.IntKind.wrap .i64 (((l5000.length : Nat) : Int) - (1 : Int))) < ((l5000.length : Nat) : Int)))) = true then
          if (decide ((Go.IntKind.wrap .i64 (((l5000.length : Nat) : Int) - (1 : Int))).toNat < l5000.length)) = true then
           if ((decide ((0 : Int) ≤ (Go.IntKind.wrap .i64 (((l5000.length : Nat) : Int) - (1 : Int))))) && (decide ((Go.IntKind.wrap .i64 (((l5000.length : Nat) : Int) - (1 : Int))) < ((l5000.length : Nat) : Int)))) = true then
            if (decide ((Go.IntKind.wrap .i64 (((l5000.length : Nat) : Int) - (1 : Int))).toNat < l5000.length)) = true then
             some (.inl (t13, ((Go.IntKind.wrap .i64 (t14 + (1 : Int))), (l1080, (l0, (List.set l5000 (Go.IntKind.wrap .i64 (((l5000.length : Nat) : Int) - (1 : Int))).toNat ((l5000.getD (Go.IntKind.wrap .i64 (((l5000.length : Nat) : Int) - (1 : Int))).toNat ((0 : Int), (0 : Int))).1, (if ((l1080.getD t14.toNat ((0 : Int), (0 : Int))).2 > (l5000.getD (Go.IntKind.wrap .i64 (((l5000.length : Nat) : Int) - (1 : Int))).toNat ((0 : Int), (0 : Int))).2) then (l1080.getD t14.toNat ((0 : Int), (0 : Int))).2 else (l5000.getD (Go.IntKind.wrap .i64 (((l5000.length : Nat) : Int) - (1 : Int))).toNat ((0 : Int), (0 : Int))).2))))))))
            else
             none
           else
            none
          else
           none
         else
          none
        else
         if ((decide ((0 : Int) ≤ (Go.IntKind.wrap .i64 (((l5000.length : Nat) : Int) - (1 : Int))))) && (decide ((Go.IntKind.wrap .i64 (((l5000.length : Nat) : Int) - (1 : Int))) < ((l5000.length : Nat) : Int)))) = true then
          if (decide ((Go.IntKind.wrap .i64 (((l5000.length : Nat) : Int) - (1 : Int))).toNat < l5000.length)) = true then
           if (decide ((l1080.getD t14.toNat ((0 : Int), (0 : Int))).1 ≤ (Go.IntKind.wrap .u32 ((l5000.getD (Go.IntKind.wrap .i64 (((l5000.length : Nat) : Int) - (1 : Int))).toNat ((0 : Int), (0 : Int))).2 + (1 : Int))))) = true then
            if ((decide ((0 : Int) ≤ (Go.IntKind.wrap .i64 (((l5000.length : Nat) : Int) - (1 : Int))))) && (decide ((Go.IntKind.wrap .i64 (((l5000.length : Nat) : Int) - (1 : Int))) < ((l5000.length : Nat) : Int)))) = true then
             if (decide ((Go.IntKind.wrap .i64 (((l5000.length : Nat) : Int) - (1 : Int))).toNat < l5000.length)) = true then
              if ((decide ((0 : Int) ≤ (Go.IntKind.wrap .i64 (((l5000.length : Nat) : Int) - (1 : Int))))) && (decide ((Go.IntKind.wrap .i64 (((l5000.length : Nat) : Int) - (1 : Int))) < ((l5000.length : Nat) : Int)))) = true then
               if (decide ((Go.IntKind.wrap .i64 (((l5000.length : Nat) : Int) - (1 : Int))).toNat < l5000.length)) = true then
                some (.inl (t13, ((Go.IntKind.wrap .i64 (t14 + (1 : Int))), (l1080, (l0, (List.set l5000 (Go.IntKind.wrap .i64 (((l5000.length : Nat) : Int) - (1 : Int))).toNat ((l5000.getD (Go.IntKind.wrap .i64 (((l5000.length : Nat) : Int) - (1 : Int))).toNat ((0 : Int), (0 : Int))).1, (if ((l1080.getD t14.toNat ((0 : Int), (0 : Int))).2 > (l5000.getD (Go.IntKind.wrap .i64 (((l5000.length : Nat) : Int) - (1 : Int))).toNat ((0 : Int), (0 : Int))).2) then (l1080.getD t14.toNat ((0 : Int), (0 : Int))).2 else (l5000.getD (Go.IntKind.wrap .i64 (((l5000.length : Nat) : Int) - (1 : Int))).toNat ((0 : Int), (0 : Int))).2))))))))
               else
                none
              else
               none
             else
              none
            else
             none
           else
            if (decide (((l5000.length + [((l1080.getD t14.toNat ((0 : Int), (0 : Int))).1, (l1080.getD t14.toNat ((0 : Int), (0 : Int))).2)].length) * 8) ≤ 140737488355328)) = true then
             some (.inl (t13, ((Go.IntKind.wrap .i64 (t14 + (1 : Int))), (l1080, (l0, (l5000 ++ [((l1080.getD t14.toNat ((0 : Int), (0 : Int))).1, (l1080.getD t14.toNat ((0 : Int), (0 : Int))).2)]))))))
            else
             none
          else
           none
         else
          none
       else
        none
      else
       none
     else
      if (decide (((l5000.length + [((l1080.getD t14.toNat ((0 : Int), (0 : Int))).1, (l1080.getD t14.toNat ((0 : Int), (0 : Int))).2)].length) * 8) ≤ 140737488355328)) = true then
       some (.inl (t13, ((Go.IntKind.wrap .i64 (t14 + (1 : Int))), (l1080, (l0, (l5000 ++ [((l1080.getD t14.toNat ((0 : Int), (0 : Int))).1, (l1080.getD t14.toNat ((0 : Int), (0 : Int))).2)]))))))
      else
       none
    else
     none
   else
    none
  else
   some (.inr (l5000, l0))
noncomputable def tables_Merge_i2 (l0 : List (Int × Int)) : Option ((List (Int × Int) × List (Int × Int))) :=
  ((Go.Tx.slices_CloneW l0)).bind fun r0_0 =>
   ((Go.Tx.slices_DeleteFunc r0_0)).bind fun r1_0 =>
    ((Go.Tx.slices_SortFunc r1_0)).bind fun r2_0 =>
     ((Go.Sx.runLoop tables_Merge_i2_b5 (((r2_0.length : Nat) : Int), ((0 : Int), (r2_0, (l0, [])))))).bind fun (r3_0, r3_1) =>
      some (r3_0, r3_1)
noncomputable def ref08_Merged_b2 : Int × List (Int × Int) → Option ((Int × List (Int × Int)) ⊕ ((Bool × List (Int × Int)) ⊕ (List (Int × Int)))) := fun
  | (i3, l0) =>
  if (decide (i3 < ((l0.length : Nat) : Int))) = true then
   if ((decide ((0 : Int) ≤ i3)) && (decide (i3 < ((l0.length : Nat) : Int)))) = true then
    if (decide (i3.toNat < l0.length)) = true then
     if ((decide ((0 : Int) ≤ i3)) && (decide (i3 < ((l0.length : Nat) : Int)))) = true then
      if (decide (i3.toNat < l0.length)) = true then
       if (decide ((l0.getD i3.toNat ((0 : Int), (0 : Int))).1 > (l0.getD i3.toNat ((0 : Int), (0 : Int))).2)) = true then
        some (.inr (.inl (false, l0)))
       else
        if (decide (i3 > (0 : Int))) = true then
         if ((decide ((0 : Int) ≤ i3)) && (decide (i3 < ((l0.length : Nat) : Int)))) = true then
          if (decide (i3.toNat < l0.length)) = true then
           if ((decide ((0 : Int) ≤ (Go.IntKind.wrap .i64 (i3 - (1 : Int))))) && (decide ((Go.IntKind.wrap .i64 (i3 - (1 : Int))) < ((l0.length : Nat) : Int)))) = true then
            if (decide ((Go.IntKind.wrap .i64 (i3 - (1 : Int))).toNat < l0.length)) = true then
             if (decide ((l0.getD i3.toNat ((0 : Int), (0 : Int))).1 ≤ (l0.getD (Go.IntKind.wrap .i64 (i3 - (1 : Int))).toNat ((0 : Int), (0 : Int))).2)) = true then
              some (.inr (.inl (false, l0)))
             else
              if ((decide ((0 : Int) ≤ i3)) && (decide (i3 < ((l0.length : Nat) : Int)))) = true then
               if (decide (i3.toNat < l0.length)) = true then
                if ((decide ((0 : Int) ≤ (Go.IntKind.wrap .i64 (i3 - (1 : Int))))) && (decide ((Go.IntKind.wrap .i64 (i3 - (1 : Int))) < ((l0.length : Nat) : Int)))) = true then
                 if (decide ((Go.IntKind.wrap .i64 (i3 - (1 : Int))).toNat < l0.length)) = true then
                  if (decide ((Go.IntKind.wrap .u32 ((l0.getD i3.toNat ((0 : Int), (0 : Int))).1 - (l0.getD (Go.IntKind.wrap .i64 (i3 - (1 : Int))).toNat ((0 : Int), (0 : Int))).2)) < (2 : Int))) = true then
                   some (.inr (.inl (false, l0)))
                  else
                   some (.inl ((Go.IntKind.wrap .i64 (i3 + (1 : Int))), l0))
                 else
                  none
                else
                 none
               else
                none
              else
               none
            else
             none
           else
            none
          else
           none
         else
          none
        else
         some (.inl ((Go.IntKind.wrap .i64 (i3 + (1 : Int))), l0))
      else
       none
     else
      none
    else
     none
   else
    none
  else
   some (.inr (.inr l0))
noncomputable def ref08_Merged (l0 : List (Int × Int)) : Option ((Bool × List (Int × Int))) :=
  ((Go.Sx.runLoop ref08_Merged_b2 ((0 : Int), l0))).bind fun r0_0 =>
   match r0_0 with
   | .inl (r1_0, r1_1) =>
    some (r1_0, r1_1)
   | .inr r2_0 =>
    some (true, r2_0)
noncomputable def ref06_In_b2 : Int × Int × List (Int × Int) → Option ((Int × Int × List (Int × Int)) ⊕ ((Bool × List (Int × Int)) ⊕ (List (Int × Int)))) := fun
  | (x1, i5, l0) =>
  if (decide (i5 < ((l0.length : Nat) : Int))) = true then
   if ((decide ((0 : Int) ≤ i5)) && (decide (i5 < ((l0.length : Nat) : Int)))) = true then
    if (decide (i5.toNat < l0.length)) = true then
     ((Go.Tx.ref06_Has (l0.getD i5.toNat ((0 : Int), (0 : Int))).1 (l0.getD i5.toNat ((0 : Int), (0 : Int))).2 x1)).bind fun r0_0 =>
      if r0_0 = true then
       some (.inr (.inl (true, l0)))
      else
       some (.inl (x1, ((Go.IntKind.wrap .i64 (i5 + (1 : Int))), l0)))
    else
     none
   else
    none
  else
   some (.inr (.inr l0))
noncomputable def ref06_In (x1 : Int) (l0 : List (Int × Int)) : Option ((Bool × List (Int × Int))) :=
  ((Go.Sx.runLoop ref06_In_b2 (x1, ((0 : Int), l0)))).bind fun r0_0 =>
   match r0_0 with
   | .inl (r1_0, r1_1) =>
    some (r1_0, r1_1)
   | .inr r2_0 =>
    some (false, r2_0)
end Go.Tx
