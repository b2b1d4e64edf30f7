/- Part 16 of the proof of the statement that the last part names; it asks for no condition of its own. Here: GenMrA. -/
import Derived.Test.YtgkfbembnlgahaaGreatDoorQae
import Derived.Test.YtgkfbembnlgahaaGreatDoorQao
import Derived.Test.YtgkfbembnlgahaaGreatDoorQag
import Derived.Test.YtgkfbembnlgahaaGreatDoorQan
/- Printed by the driver (wip/drv): Go functions as pure Lean ones. -/
set_option linter.all false
set_option linter.unusedVariables false
set_option maxRecDepth 100000
namespace Go.Tx
open Go Go.Sx
/-! sabretache/tables.Merge -/
noncomputable def tables_Merge_b5 : Int × Int × List (Int × Int) × List (Int × Int) × List (Int × Int) → Option ((Int × Int × List (Int × Int) × List (Int × Int) × List (Int × Int)) ⊕ ((List (Int × Int) × List (Int × Int)))) := fun
  | (t13, t14, l1080, l0, l5000) =>
  if (decide (t14 < t13)) = true then
   if ((decide ((0 : Int) ≤ t14)) && (decide (t14 < ((l1080.length : Nat) : Int)))) = true then
    if (decide (t14.toNat < l1080.length)) = true then
     if (decide ((Go.IntKind.wrap .i64 (((l5000.length : Nat) : Int) - (1 : Int))) ≥ (0 : Int))) = true then
      if ((decide ((0 : Int) ≤ (Go.IntKind.wrap .i64 (((l5000.length : Nat) : Int) - (1 : Int))))) && (decide ((Go.IntKind.wrap .i64 (((l5000.length : Nat) : Int) - (1 : Int))) < ((l5000.length : Nat) : Int)))) = true then
       if (decide ((Go.IntKind.wrap .i64 (((l5000.length : Nat) : Int) - (1 : Int))).toNat < l5000.length)) = true then
        if (decide ((l5000.getD (Go.IntKind.wrap .i64 (((l5000.length : Nat) : Int) - (1 : Int))).toNat ((0 : Int), (0 : Int))).2 = (4294967295 : Int))) = true then
         if ((decide ((0 : Int) ≤ (Go.IntKind.wrap .i64 (((l5000.length : Nat) : Int) - (1 : Int))))) && (decide ((Go.IntKind.wrap .i64 (((l5000.length : Nat) : Int) - (1 : Int))) < ((l5000.length : Nat) : Int)))) = true then
          if (decide ((Go.IntKind.wrap .i64 (((l5000.length : Nat) : Int) - (1 : Int))).toNat < l5000.length)) = true then
           if ((decide ((0 : Int) ≤ (Go.IntKind.wrap .i64 (((l5000.length : Nat) : Int) - (1 : Int))))) && (decide ((Go.IntKind.wrap .i64 (((l5000.length : Nat) : Int) - (1 : Int))) < ((l5000.length : Nat) : Int)))) = true then
            if (decide ((Go.IntKind.wrap .i64 (((l5000.length : Nat) : Int) - (1 : Int))).toNat < l5000.length)) = true then
             some (.inl (t13, ((Go.IntKind.wrap .i64 (t14 + (1 : Int))), (l1080, (l0, (List.set l5000 (Go.IntKind.wrap .i64 (((l5000.length : Nat) : Int) - (1 : Int))).toNat ((l5000.getD (Go.IntKind.wrap .i64 (((l5000.length : Nat) : Int) - (1 : Int))).toNat ((0 : Int), (0 : Int))).1, (if ((l1080.getD t14.toNat ((0 : Int), (0 : Int))).2 > (l5000.getD (Go.IntKind.wrap .i64 (((l5000.length : Nat) : Int) - (1 : Int))).toNat ((0 : Int), (0 : Int))).2) then (l1080.getD t14.toNat ((0 : Int), (0 : Int))).2 else (l5000.getD (Go.IntKind.wrap .i64 (((l5000.length : Nat) : Int) - (1 : Int))).toNat ((0 : Int), (0 : Int))).2))))))))
            else
             none
           else
            none
          else
           none
         else
          none
        else
         if ((decide ((0 : Int) ≤ (Go.IntKind.wrap .i64 (((l5000.length : Nat) : Int) - (1 : Int))))) && (decide ((Go.IntKind.wrap .i64 (((l5000.length : Nat) : Int) - (1 : Int))) < ((l5000.length : Nat) : Int)))) = true then
          if (decide ((Go.IntKind.wrap .i64 (((l5000.length : Nat) : Int) - (1 : Int))).toNat < l5000.length)) = true then
           if (decide ((l1080.getD t14.toNat ((0 : Int), (0 : Int))).1 ≤ (Go.IntKind.wrap .u32 ((l5000.getD (Go.IntKind.wrap .i64 (((l5000.length : Nat) : Int) - (1 : Int))).toNat ((0 : Int), (0 : Int))).2 + (1 : Int))))) = true then
            if ((decide ((0 : Int) ≤ (Go.IntKind.wrap .i64 (((l5000.length : Nat) : Int) - (1 : Int))))) && (decide ((Go.IntKind.wrap .i64 (((l5000.length : Nat) : Int) - (1 : Int))) < ((l5000.length : Nat) : Int)))) = true then
             if (decide ((Go.IntKind.wrap .i64 (((l5000.length : Nat) : Int) - (1 : Int))).toNat < l5000.length)) = true then
              if ((decide ((0 : Int) ≤ (Go.IntKind.wrap .i64 (((l5000.length : Nat) : Int) - (1 : Int))))) && (decide ((Go.IntKind.wrap .i64 (((l5000.length : Nat) : Int) - (1 : Int))) < ((l5000.length : Nat) : Int)))) = true then
               if (decide ((Go.IntKind.wrap .i64 (((l5000.length : Nat) : Int) - (1 : Int))).toNat < l5000.length)) = true then
                some (.inl (t13, ((Go.IntKind.wrap .i64 (t14 + (1 : Int))), (l1080, (l0, (List.set l5000 (Go.IntKind.wrap .i64 (((l5000.length : Nat) : Int) - (1 : Int))).toNat ((l5000.getD (Go.IntKind.wrap .i64 (((l5000.length : Nat) : Int) - (1 : Int))).toNat ((0 : Int), (0 : Int))).1, (if ((l1080.getD t14.toNat ((0 : Int), (0 : Int))).2 > (l5000.getD (Go.IntKind.wrap .i64 (((l5000.length : Nat) : Int) - (1 : Int))).toNat ((0 : Int), (0 : Int))).2) then (l1080.getD t14.toNat ((0 : Int), (0 : Int))).2 else (l5000.getD (Go.IntKind.wrap .i64 (((l5000.length : Nat) : Int) - (1 : Int))).toNat ((0 : Int), (0 : Int))).2))))))))
               else
                none
              else
               none
             else
              none
            else
             none
           else
            if (decide (((l5000.length + [((l1080.getD t14.toNat ((0 : Int), (0 : Int))).1, (l1080.getD t14.toNat ((0 : Int), (0 : Int))).2)].length) * 8) ≤ 140737488355328)) = true then
             some (.inl (t13, ((Go.IntKind.wrap .i64 (t14 + (1 : Int))), (l1080, (l0, (l5000 ++ [((l1080.getD t14.toNat ((0 : Int), (0 : Int))).1, (l1080.getD t14.toNat ((0 : Int), (0 : Int))).2)]))))))
            else
             none
          else
           none
         else
          none
       else
        none
      else
       none
     else
      if (decide (((l5000.length + [((l1080.getD t14.toNat ((0 : Int), (0 : Int))).1, (l1080.getD t14.toNat ((0 : Int), (0 : Int))).2)].length) * 8) ≤ 140737488355328)) = true then
       some (.inl (t13, ((Go.IntKind.wrap .i64 (t14 + (1 : Int))), (l1080, (l0, (l5000 ++ [((l1080.getD t14.toNat ((0 : Int), (0 : Int))).1, (l1080.getD t14.toNat ((0 : Int), (0 : Int))).2)]))))))
      else
       none
    else
     none
   else
    none
  else
   some (.inr (l5000, l0))
noncomputable def tables_Merge (l0 : List (Int × Int)) : Option ((List (Int × Int) × List (Int × Int))) :=
  ((Go.Tx.slices_CloneR l0)).bind fun r0_0 =>
   ((Go.Tx.slices_DeleteFunc r0_0)).bind fun r1_0 =>
    ((Go.Tx.slices_SortFunc r1_0)).bind fun r2_0 =>
     ((Go.Sx.runLoop tables_Merge_b5 (((r2_0.length : Nat) : Int), ((0 : Int), (r2_0, (l0, [])))))).bind fun (r3_0, r3_1) =>
      some (r3_0, r3_1)
/-! sabretache/tables.Outside -/
noncomputable def tables_Outside_b4 : Int × Int × Int × List (Int × Int) × List (Int × Int) × List (Int × Int) → Option ((Int × Int × Int × List (Int × Int) × List (Int × Int) × List (Int × Int)) ⊕ ((Int × List (Int × Int) × List (Int × Int)))) := fun
  | (from4, t9, t10, l1080, l0, l5000) =>
  if (decide (t10 < t9)) = true then
   if ((decide ((0 : Int) ≤ t10)) && (decide (t10 < ((l1080.length : Nat) : Int)))) = true then
    if (decide (t10.toNat < l1080.length)) = true then
     if (decide ((l1080.getD t10.toNat ((0 : Int), (0 : Int))).1 > (1114111 : Int))) = true then
      some (.inr (from4, (l5000, l0)))
     else
      if (decide (from4 > (1114111 : Int))) = true then
       some (.inr (from4, (l5000, l0)))
      else
       if (decide ((l1080.getD t10.toNat ((0 : Int), (0 : Int))).1 > from4)) = true then
        if (decide (((l5000.length + [(from4, (Go.IntKind.wrap .u32 ((l1080.getD t10.toNat ((0 : Int), (0 : Int))).1 - (1 : Int))))].length) * 8) ≤ 140737488355328)) = true then
         some (.inl ((Go.IntKind.wrap .u32 ((if ((1114111 : Int) < (l1080.getD t10.toNat ((0 : Int), (0 : Int))).2) then (1114111 : Int) else (l1080.getD t10.toNat ((0 : Int), (0 : Int))).2) + (1 : Int))), (t9, ((Go.IntKind.wrap .i64 (t10 + (1 : Int))), (l1080, (l0, (l5000 ++ [(from4, (Go.IntKind.wrap .u32 ((l1080.getD t10.toNat ((0 : Int), (0 : Int))).1 - (1 : Int))))])))))))
        else
         none
       else
        some (.inl ((Go.IntKind.wrap .u32 ((if ((1114111 : Int) < (l1080.getD t10.toNat ((0 : Int), (0 : Int))).2) then (1114111 : Int) else (l1080.getD t10.toNat ((0 : Int), (0 : Int))).2) + (1 : Int))), (t9, ((Go.IntKind.wrap .i64 (t10 + (1 : Int))), (l1080, (l0, l5000))))))
    else
     none
   else
    none
  else
   some (.inr (from4, (l5000, l0)))
noncomputable def tables_Outside (l0 : List (Int × Int)) : Option ((List (Int × Int) × List (Int × Int))) :=
  ((Go.Tx.tables_Merge l0)).bind fun (r0_0, r0_1) =>
   ((Go.Sx.runLoop tables_Outside_b4 ((0 : Int), (((r0_0.length : Nat) : Int), ((0 : Int), (r0_0, (r0_1, []))))))).bind fun (r1_0, r1_1, r1_2) =>
    if (decide (r1_0 ≤ (1114111 : Int))) = true then
     if (decide (((r1_1.length + [(r1_0, (1114111 : Int))].length) * 8) ≤ 140737488355328)) = true then
      some ((r1_1 ++ [(r1_0, (1114111 : Int))]), r1_2)
     else
      none
    else
     some (r1_1, r1_2)
/-! slices.Concat[[]sabretache/api.Span,sabretache/api.Span] -/
noncomputable def slices_Concat___b3 : Int × Int × Int × List (List (Int × Int)) → Option ((Int × Int × Int × List (List (Int × Int))) ⊕ ((Int × List (List (Int × Int))))) := fun
  | (size3, t10, t11, l0) =>
  if (decide (t11 < t10)) = true then
   if ((decide ((0 : Int) ≤ t11)) && (decide (t11 < ((l0.length : Nat) : Int)))) = true then
    if (decide (t11.toNat < l0.length)) = true then
     if (decide ((Go.IntKind.wrap .i64 (size3 + (((l0.getD t11.toNat []).length : Nat) : Int))) < (0 : Int))) = true then
      none
     else
      some (.inl ((Go.IntKind.wrap .i64 (size3 + (((l0.getD t11.toNat []).length : Nat) : Int))), (t10, ((Go.IntKind.wrap .i64 (t11 + (1 : Int))), l0))))
    else
     none
   else
    none
  else
   some (.inr (size3, l0))
noncomputable def slices_Concat___b11 : Int × Int × List (Int × Int) × List (List (Int × Int)) → Option ((Int × Int × List (Int × Int) × List (List (Int × Int))) ⊕ ((List (Int × Int) × List (List (Int × Int))))) := fun
  | (t26, t27, l1240, l0) =>
  if (decide (t27 < t26)) = true then
   if ((decide ((0 : Int) ≤ t27)) && (decide (t27 < ((l0.length : Nat) : Int)))) = true then
    if (decide (t27.toNat < l0.length)) = true then
     if (decide (((l1240.length + (l0.getD t27.toNat []).length) * 8) ≤ 140737488355328)) = true then
      some (.inl (t26, ((Go.IntKind.wrap .i64 (t27 + (1 : Int))), ((l1240 ++ (l0.getD t27.toNat [])), l0))))
     else
      none
    else
     none
   else
    none
  else
   some (.inr (l1240, l0))
noncomputable def slices_Concat__ (l0 : List (List (Int × Int))) : Option ((List (Int × Int) × List (List (Int × Int)))) :=
  ((Go.Sx.runLoop slices_Concat___b3 ((0 : Int), (((l0.length : Nat) : Int), ((0 : Int), l0))))).bind fun (r0_0, r0_1) =>
   ((Go.Tx.slices_Grow r0_0)).bind fun _ =>
    ((Go.Sx.runLoop slices_Concat___b11 (((r0_1.length : Nat) : Int), ((0 : Int), ([], r0_1))))).bind fun (r2_0, r2_1) =>
     some (r2_0, r2_1)
/-! sabretache/tables.Merge -/
noncomputable def tables_Merge_i2_b5 : Int × Int × List (Int × Int) × List (Int × Int) × List (Int × Int) → Option ((Int × Int × List (Int × Int) × List (Int × Int) × List (Int × Int)) ⊕ ((List (Int × Int) × List (Int × Int)))) := fun
  | (t13, t14, l1080, l0, l5000) =>
  if (decide (t14 < t13)) = true then
   if ((decide ((0 : Int) ≤ t14)) && (decide (t14 < ((l1080.length : Nat) : Int)))) = true then
    if (decide (t14.toNat < l1080.length)) = true then
     if (decide ((Go.IntKind.wrap .i64 (((l5000.length : Nat) : Int) - (1 : Int))) ≥ (0 : Int))) = true then
      if ((decide ((0 : Int) ≤ (Go.IntKind.wrap .i64 (((l5000.length : Nat) : Int) - (1 : Int))))) && (decide ((Go.IntKind.wrap .i64 (((l5000.length : Nat) : Int) - (1 : Int))) < ((l5000.length : Nat) : Int)))) = true then
       if (decide ((Go.IntKind.wrap .i64 (((l5000.length : Nat) : Int) - (1 : Int))).toNat < l5000.length)) = true then
        if (decide ((l5000.getD (Go.IntKind.wrap .i64 (((l5000.length : Nat) : Int) - (1 : Int))).toNat ((0 : Int), (0 : Int))).2 = (4294967295 : Int))) = true then
         if ((decide ((0 : Int) ≤ (Go.IntKind.wrap .i64 (((l5000.length : Nat) : Int) - (1 : Int))))) && (decide ((Go.IntKind.wrap .i64 (((l5000.length : Nat) : Int) - (1 : Int))) < ((l5000.length : Nat) : Int)))) = true then
          if (decide ((Go.IntKind.wrap .i64 (((l5000.length : Nat) : Int) - (1 : Int))).toNat < l5000.length)) = true then
           if ((decide ((0 : Int) ≤ (Go.IntKind.wrap .i64 (((l5000.length : Nat) : Int) - (1 : Int))))) && (decide ((Go.IntKind.wrap .i64 (((l5000.length : Nat) : Int) - (1 : Int))) < ((l5000.length : Nat) : Int)))) = true then
            if (decide ((Go.IntKind.wrap .i64 (((l5000.length : Nat) : Int) - (1 : Int))).toNat < l5000.length)) = true then
             some (.inl (t13, ((Go.IntKind.wrap .i64 (t14 + (1 : Int))), (l1080, (l0, (List.set l5000 (Go.IntKind.wrap .i64 (((l5000.length : Nat) : Int) - (1 : Int))).toNat ((l5000.getD (Go.IntKind.wrap .i64 (((l5000.length : Nat) : Int) - (1 : Int))).toNat ((0 : Int), (0 : Int))).1, (if ((l1080.getD t14.toNat ((0 : Int), (0 : Int))).2 > (l5000.getD (Go.IntKind.wrap .i64 (((l5000.length : Nat) : Int) - (1 : Int))).toNat ((0 : Int), (0 : Int))).2) then (l1080.getD t14.toNat ((0 : Int), (0 : Int))).2 else (l5000.getD (Go.IntKind.wrap .i64 (((l5000.length : Nat) : Int) - (1 : Int))).toNat ((0 : Int), (0 : Int))).2))))))))
            else
             none
           else
            none
          else
           none
         else
          none
        else
         if ((decide ((0 : Int) ≤ (Go.IntKind.wrap .i64 (((l5000.length : Nat) : Int) - (1 : Int))))) && (decide ((Go.IntKind.wrap .i64 (((l5000.length : Nat) : Int) - (1 : Int))) < ((l5000.length : Nat) : Int)))) = true then
          if (decide ((Go.IntKind.wrap .i64 (((l5000.length : Nat) : Int) - (1 : Int))).toNat < l5000.length)) = true then
           if (decide ((l1080.getD t14.toNat ((0 : Int), (0 : Int))).1 ≤ (Go.IntKind.wrap .u32 ((l5000.getD (Go.IntKind.wrap .i64 (((l5000.length : Nat) : Int) - (1 : Int))).toNat ((0 : Int), (0 : Int))).2 + (1 : Int))))) = true then
            if ((decide ((0 : Int) ≤ (Go.IntKind.wrap .i64 (((l5000.length : Nat) : Int) - (1 : Int))))) && (decide ((Go.IntKind.wrap .i64 (((l5000.length : Nat) : Int) - (1 : Int))) < ((l5000.length : Nat) : Int)))) = true then
             if (decide ((Go.IntKind.wrap .i64 (((l5000.length : Nat) : Int) - (1 : Int))).toNat < l5000.length)) = true then
              if ((decide ((0 : Int) ≤ (Go.IntKind.wrap .i64 (((l5000.length : Nat) : Int) - (1 : Int))))) && (decide ((Go.IntKind.wrap .i64 (((l5000.length : Nat) : Int) - (1 : Int))) < ((l5000.length : Nat) : Int)))) = true then
               if (decide ((Go.IntKind.wrap .i64 (((l5000.length : Nat) : Int) - (1 : Int))).toNat < l5000.length)) = true then
                some (.inl (t13, ((Go.IntKind.wrap .i64 (t14 + (1 : Int))), (l1080, (l0, (List.set l5000 (Go.IntKind.wrap .i64 (((l5000.length : Nat) : Int) - (1 : Int))).toNat ((l5000.getD (Go.IntKind.wrap .i64 (((l5000.length : Nat) : Int) - (1 : Int))).toNat ((0 : Int), (0 : Int))).1, (if ((l1080.getD t14.toNat ((0 : Int), (0 : Int))).2 > (l5000.getD (Go.IntKind.wrap .i64 (((l5000.length : Nat) : Int) - (1 : Int))).toNat ((0 : Int), (0 : Int))).2) then (l1080.getD t14.toNat ((0 : Int), (0 : Int))).2 else (l5000.getD (Go.IntKind.wrap .i64 (((l5000.length : Nat) : Int) - (1 : Int))).toNat ((0 : Int), (0 : Int))).2))))))))
               else
                none
              else
               none
             else
              none
            else
             none
           else
            if (decide (((l5000.length + [((l1080.getD t14.toNat ((0 : Int), (0 : Int))).1, (l1080.getD t14.toNat ((0 : Int), (0 : Int))).2)].length) * 8) ≤ 140737488355328)) = true then
             some (.inl (t13, ((Go.IntKind.wrap .i64 (t14 + (1 : Int))), (l1080, (l0, (l5000 ++ [((l1080.getD t14.toNat ((0 : Int), (0 : Int))).1, (l1080.getD t14.toNat ((0 : Int), (0 : Int))).2)]))))))
            else
             none
          else
           none
         else
          none
       else
        none
      else
       none
     else
      if (decide (((l5000.length + [((l1080.getD t14.toNat ((0 : Int), (0 : Int))).1, (l1080.getD t14.toNat ((0 : Int), (0 : Int))).2)].length) * 8) ≤ 140737488355328)) = true then
       some (.inl (t13, ((Go.IntKind.wrap .i64 (t14 + (1 : Int))), (l1080, (l0, (l5000 ++ [((l1080.getD t14.toNat ((0 : Int), (0 : Int))).1, (l1080.getD t14.toNat ((0 : Int), (0 : Int))).2)]))))))
      else
       none
    else
     none
   else
    none
  else
   some (.inr (l5000, l0))
noncomputable def tables_Merge_i2 (l0 : List (Int × Int)) : Option ((List (Int × Int) × List (Int × Int))) :=
  ((Go.Tx.slices_CloneW l0)).bind fun r0_0 =>
   ((Go.Tx.slices_DeleteFunc r0_0)).bind fun r1_0 =>
    ((Go.Tx.slices_SortFunc r1_0)).bind fun r2_0 =>
     ((Go.Sx.runLoop tables_Merge_i2_b5 (((r2_0.length : Nat) : Int), ((0 : Int), (r2_0, (l0, [])))))).bind fun (r3_0, r3_1) =>
      some (r3_0, r3_1)
/-! sabretache/tables.Union -/
noncomputable def tables_Union (l0 : List (List (Int × Int))) : Option ((List (Int × Int) × List (List (Int × Int)))) :=
  ((Go.Tx.slices_Concat__ l0)).bind fun (r0_0, r0_1) =>
   ((Go.Tx.tables_Merge_i2 r0_0)).bind fun (r1_0, r1_1) =>
    some (r1_0, r0_1)
/-! sabretache/sabretacheref08.Merged -/
noncomputable def ref08_Merged_b2 : Int × List (Int × Int) → Option ((Int × List (Int × Int)) ⊕ ((Bool × List (Int × Int)) ⊕ (List (Int × Int)))) := fun
  | (i3, l0) =>
  if (decide (i3 < ((l0.length : Nat) : Int))) = true then
   if ((decide ((0 : Int) ≤ i3)) && (decide (i3 < ((l0.length : Nat) : Int)))) = true then
    if (decide (i3.toNat < l0.length)) = true then
     if ((decide ((0 : Int) ≤ i3)) && (decide (i3 < ((l0.length : Nat) : Int)))) = true then
      if (decide (i3.toNat < l0.length)) = true then
       if (decide ((l0.getD i3.toNat ((0 : Int), (0 : Int))).1 > (l0.getD i3.toNat ((0 : Int), (0 : Int))).2)) = true then
        some (.inr (.inl (false, l0)))
       else
        if (decide (i3 > (0 : Int))) = true then
         if ((decide ((0 : Int) ≤ i3)) && (decide (i3 < ((l0.length : Nat) : Int)))) = true then
          if (decide (i3.toNat < l0.length)) = true then
           if ((decide ((0 : Int) ≤ (Go.IntKind.wrap .i64 (i3 - (1 : Int))))) && (decide ((Go.IntKind.wrap .i64 (i3 - (1 : Int))) < ((l0.length : Nat) : Int)))) = true then
            if (decide ((Go.IntKind.wrap .i64 (i3 - (1 : Int))).toNat < l0.length)) = true then
             if (decide ((l0.getD i3.toNat ((0 : Int), (0 : Int))).1 ≤ (l0.getD (Go.IntKind.wrap .i64 (i3 - (1 : Int))).toNat ((0 : Int), (0 : Int))).2)) = true then
              some (.inr (.inl (false, l0)))
             else
              if ((decide ((0 : Int) ≤ i3)) && (decide (i3 < ((l0.length : Nat) : Int)))) = true then
               if (decide (i3.toNat < l0.length)) = true then
                if ((decide ((0 : Int) ≤ (Go.IntKind.wrap .i64 (i3 - (1 : Int))))) && (decide ((Go.IntKind.wrap .i64 (i3 - (1 : Int))) < ((l0.length : Nat) : Int)))) = true then
                 if (decide ((Go.IntKind.wrap .i64 (i3 - (1 : Int))).toNat < l0.length)) = true then
                  if (decide ((Go.IntKind.wrap .u32 ((l0.getD i3.toNat ((0 : Int), (0 : Int))).1 - (l0.getD (Go.IntKind.wrap .i64 (i3 - (1 : Int))).toNat ((0 : Int), (0 : Int))).2)) < (2 : Int))) = true then
                   some (.inr (.inl (false, l0)))
                  else
                   some (.inl ((Go.IntKind.wrap .i64 (i3 + (1 : Int))), l0))
                 else
                  none
                else
                 none
               else
                none
              else
               none
            else
             none
           else
            none
          else
           none
         else
          none
        else
         some (.inl ((Go.IntKind.wrap .i64 (i3 + (1 : Int))), l0))
      else
       none
     else
      none
    else
     none
   else
    none
  else
   some (.inr (.inr l0))
noncomputable def ref08_Merged (l0 : List (Int × Int)) : Option ((Bool × List (Int × Int))) :=
  ((Go.Sx.runLoop ref08_Merged_b2 ((0 : Int), l0))).bind fun r0_0 =>
   match r0_0 with
   | .inl (r1_0, r1_1) =>
    some (r1_0, r1_1)
   | .inr r2_0 =>
    some (true, r2_0)
/-! sabretache/sabretacheref06.In -/
noncomputable def ref06_In_b2 : Int × Int × List (Int × Int) → Option ((Int × Int × List (Int × Int)) ⊕ ((Bool × List (Int × Int)) ⊕ (List (Int × Int)))) := fun
  | (x1, i5, l0) =>
  if (decide (i5 < ((l0.length : Nat) : Int))) = true then
   if ((decide ((0 : Int) ≤ i5)) && (decide (i5 < ((l0.length : Nat) : Int)))) = true then
    if (decide (i5.toNat < l0.length)) = true then
     ((Go.Tx.ref06_Has (l0.getD i5.toNat ((0 : Int), (0 : Int))).1 (l0.getD i5.toNat ((0 : Int), (0 : Int))).2 x1)).bind fun r0_0 =>
      if r0_0 = true then
       some (.inr (.inl (true, l0)))
      else
       some (.inl (x1, ((Go.IntKind.wrap .i64 (i5 + (1 : Int))), l0)))
    else
     none
   else
    none
  else
   some (.inr (.inr l0))
noncomputable def ref06_In (x1 : Int) (l0 : List (Int × Int)) : Option ((Bool × List (Int × Int))) :=
  ((Go.Sx.runLoop ref06_In_b2 (x1, ((0 : Int), l0)))).bind fun r0_0 =>
   match r0_0 with
   | .inl (r1_0, r1_1) =>
    some (r1_0, r1_1)
   | .inr r2_0 =>
    some (false, r2_0)
/-! sabretache/sabretacheref06.In -/
noncomputable def ref06_In_i2_b2 : Int × Int × List (Int × Int) → Option ((Int × Int × List (Int × Int)) ⊕ ((Bool × List (Int × Int)) ⊕ (List (Int × Int)))) := fun
  | (x1, i5, l0) =>
  if (decide (i5 < ((l0.length : Nat) : Int))) = true then
   if ((decide ((0 : Int) ≤ i5)) && (decide (i5 < ((l0.length : Nat) : Int)))) = true then
    if (decide (i5.toNat < l0.length)) = true then
     ((Go.Tx.ref06_Has (l0.getD i5.toNat ((0 : Int), (0 : Int))).1 (l0.getD i5.toNat ((0 : Int), (0 : Int))).2 x1)).bind fun r0_0 =>
      if r0_0 = true then
       some (.inr (.inl (true, l0)))
      else
       some (.inl (x1, ((Go.IntKind.wrap .i64 (i5 + (1 : Int))), l0)))
    else
     none
   else
    none
  else
   some (.inr (.inr l0))
noncomputable def ref06_In_i2 (x1 : Int) (l0 : List (Int × Int)) : Option ((Bool × List (Int × Int))) :=
  ((Go.Sx.runLoop ref06_In_i2_b2 (x1, ((0 : Int), l0)))).bind fun r0_0 =>
   match r0_0 with
   | .inl (r1_0, r1_1) =>
    some (r1_0, r1_1)
   | .inr r2_0 =>
    some (false, r2_0)
/-! sabretache/sabretachelaw08.TablesMerges -/
noncomputable def law08_TablesMerges_b10 : Int × Int × List (Int × Int) × List (Int × Int) × List (Int × Int) × List (Int × Int) × List (Int × Int) × List (Int) × List (Int × Int) → Option ((Int × Int × List (Int × Int) × List (Int × Int) × List (Int × Int) × List (Int × Int) × List (Int × Int) × List (Int) × List (Int × Int)) ⊕ ((List (Int × Int) × List (Int × Int) × List (Int × Int) × List (Int × Int) × List (Int × Int) × List (Int)))) := fun
  | (t54, t55, l0, l1, l1270, l1290, l1330, l148, l149) =>
  if (decide (t55 < t54)) = true then
   if ((decide ((0 : Int) ≤ t55)) && (decide (t55 < ((l149.length : Nat) : Int)))) = true then
    if (decide (t55.toNat < l149.length)) = true then
     if (decide (((l148.length + [(l149.getD t55.toNat ((0 : Int), (0 : Int))).1, (l149.getD t55.toNat ((0 : Int), (0 : Int))).2].length) * 4) ≤ 140737488355328)) = true then
      if (decide ((l149.getD t55.toNat ((0 : Int), (0 : Int))).1 > (0 : Int))) = true then
       if (decide ((((l148 ++ [(l149.getD t55.toNat ((0 : Int), (0 : Int))).1, (l149.getD t55.toNat ((0 : Int), (0 : Int))).2]).length + [(Go.IntKind.wrap .u32 ((l149.getD t55.toNat ((0 : Int), (0 : Int))).1 - (1 : Int)))].length) * 4) ≤ 140737488355328)) = true then
        if (decide ((l149.getD t55.toNat ((0 : Int), (0 : Int))).2 < (4294967295 : Int))) = true then
         if (decide (((((l148 ++ [(l149.getD t55.toNat ((0 : Int), (0 : Int))).1, (l149.getD t55.toNat ((0 : Int), (0 : Int))).2]) ++ [(Go.IntKind.wrap .u32 ((l149.getD t55.toNat ((0 : Int), (0 : Int))).1 - (1 : Int)))]).length + [(Go.IntKind.wrap .u32 ((l149.getD t55.toNat ((0 : Int), (0 : Int))).2 + (1 : Int)))].length) * 4) ≤ 140737488355328)) = true then
          some (.inl (t54, ((Go.IntKind.wrap .i64 (t55 + (1 : Int))), (l0, (l1, (l1270, (l1290, (l1330, ((((l148 ++ [(l149.getD t55.toNat ((0 : Int), (0 : Int))).1, (l149.getD t55.toNat ((0 : Int), (0 : Int))).2]) ++ [(Go.IntKind.wrap .u32 ((l149.getD t55.toNat ((0 : Int), (0 : Int))).1 - (1 : Int)))]) ++ [(Go.IntKind.wrap .u32 ((l149.getD t55.toNat ((0 : Int), (0 : Int))).2 + (1 : Int)))]), l149)))))))))
         else
          none
        else
         some (.inl (t54, ((Go.IntKind.wrap .i64 (t55 + (1 : Int))), (l0, (l1, (l1270, (l1290, (l1330, (((l148 ++ [(l149.getD t55.toNat ((0 : Int), (0 : Int))).1, (l149.getD t55.toNat ((0 : Int), (0 : Int))).2]) ++ [(Go.IntKind.wrap .u32 ((l149.getD t55.toNat ((0 : Int), (0 : Int))).1 - (1 : Int)))]), l149)))))))))
       else
        none
      else
       if (decide ((l149.getD t55.toNat ((0 : Int), (0 : Int))).2 < (4294967295 : Int))) = true then
        if (decide ((((l148 ++ [(l149.getD t55.toNat ((0 : Int), (0 : Int))).1, (l149.getD t55.toNat ((0 : Int), (0 : Int))).2]).length + [(Go.IntKind.wrap .u32 ((l149.getD t55.toNat ((0 : Int), (0 : Int))).2 + (1 : Int)))].length) * 4) ≤ 140737488355328)) = true then
         some (.inl (t54, ((Go.IntKind.wrap .i64 (t55 + (1 : Int))), (l0, (l1, (l1270, (l1290, (l1330, (((l148 ++ [(l149.getD t55.toNat ((0 : Int), (0 : Int))).1, (l149.getD t55.toNat ((0 : Int), (0 : Int))).2]) ++ [(Go.IntKind.wrap .u32 ((l149.getD t55.toNat ((0 : Int), (0 : Int))).2 + (1 : Int)))]), l149)))))))))
        else
         none
       else
        some (.inl (t54, ((Go.IntKind.wrap .i64 (t55 + (1 : Int))), (l0, (l1, (l1270, (l1290, (l1330, ((l148 ++ [(l149.getD t55.toNat ((0 : Int), (0 : Int))).1, (l149.getD t55.toNat ((0 : Int), (0 : Int))).2]), l149)))))))))
     else
      none
    else
     none
   else
    none
  else
   some (.inr (l0, (l1, (l1270, (l1290, (l1330, l148))))))
noncomputable def law08_TablesMerges_b19 : Int × Int × List (Int × Int) × List (Int × Int) × List (Int × Int) × List (Int × Int) × List (Int × Int) × List (Int) → Option ((Int × Int × List (Int × Int) × List (Int × Int) × List (Int × Int) × List (Int × Int) × List (Int × Int) × List (Int)) ⊕ ((List (Int × Int) × List (Int × Int)) ⊕ (Bool × List (Int × Int) × List (Int × Int)))) := fun
  | (t86, t87, l0, l1, l1270, l1290, l1330, l148) =>
  if (decide (t87 < t86)) = true then
   if ((decide ((0 : Int) ≤ t87)) && (decide (t87 < ((l148.length : Nat) : Int)))) = true then
    if (decide (t87.toNat < l148.length)) = true then
     ((Go.Tx.ref06_In (l148.getD t87.toNat (0 : Int)) l0)).bind fun (r0_0, r0_1) =>
      ((Go.Tx.ref06_In_i2 (l148.getD t87.toNat (0 : Int)) l1270)).bind fun (r1_0, r1_1) =>
       if (!(decide (r1_0 = r0_0))) = true then
        some (.inr (.inr (false, (r0_1, l1))))
       else
        ((Go.Tx.ref06_In_i2 (l148.getD t87.toNat (0 : Int)) l1290)).bind fun (r2_0, r2_1) =>
         if (!r0_0) = true then
          if (!(decide (r2_0 = (decide ((l148.getD t87.toNat (0 : Int)) ≤ (1114111 : Int)))))) = true then
           some (.inr (.inr (false, (r0_1, l1))))
          else
           ((Go.Tx.ref06_In_i2 (l148.getD t87.toNat (0 : Int)) l1330)).bind fun (r3_0, r3_1) =>
            if r0_0 = true then
             if (!(decide (r3_0 = true))) = true then
              some (.inr (.inr (false, (r0_1, l1))))
             else
              some (.inl (t86, ((Go.IntKind.wrap .i64 (t87 + (1 : Int))), (r0_1, (l1, (r1_1, (r2_1, (r3_1, l148))))))))
            else
             ((Go.Tx.ref06_In (l148.getD t87.toNat (0 : Int)) l1)).bind fun (r4_0, r4_1) =>
              if (!(decide (r3_0 = r4_0))) = true then
               some (.inr (.inr (false, (r0_1, r4_1))))
              else
               some (.inl (t86, ((Go.IntKind.wrap .i64 (t87 + (1 : Int))), (r0_1, (r4_1, (r1_1, (r2_1, (r3_1, l148))))))))
         else
          if (!(decide (r2_0 = false))) = true then
           some (.inr (.inr (false, (r0_1, l1))))
          else
           ((Go.Tx.ref06_In_i2 (l148.getD t87.toNat (0 : Int)) l1330)).bind fun (r5_0, r5_1) =>
            if r0_0 = true then
             if (!(decide (r5_0 = true))) = true then
              some (.inr (.inr (false, (r0_1, l1))))
             else
              some (.inl (t86, ((Go.IntKind.wrap .i64 (t87 + (1 : Int))), (r0_1, (l1, (r1_1, (r2_1, (r5_1, l148))))))))
            else
             ((Go.Tx.ref06_In (l148.getD t87.toNat (0 : Int)) l1)).bind fun (r6_0, r6_1) =>
              if (!(decide (r5_0 = r6_0))) = true then
               some (.inr (.inr (false, (r0_1, r6_1))))
              else
               some (.inl (t86, ((Go.IntKind.wrap .i64 (t87 + (1 : Int))), (r0_1, (r6_1, (r1_1, (r2_1, (r5_1, l148))))))))
    else
     none
   else
    none
  else
   some (.inr (.inl (l0, l1)))
noncomputable def law08_TablesMerges (x2 : Int) (l0 : List (Int × Int)) (l1 : List (Int × Int)) : Option ((Bool × List (Int × Int) × List (Int × Int))) :=
  (Go.Tx.law08_awake).bind fun r0_0 =>
   if (!r0_0) = true then
    some (false, (l0, l1))
   else
    if (decide (((l0.length : Nat) : Int) > (40 : Int))) = true then
     some (true, (l0, l1))
    else
     if (decide (((l1.length : Nat) : Int) > (40 : Int))) = true then
      some (true, (l0, l1))
     else
      ((Go.Tx.tables_Merge l0)).bind fun (r1_0, r1_1) =>
       ((Go.Tx.tables_Outside r1_1)).bind fun (r2_0, r2_1) =>
        ((Go.Tx.tables_Union [r2_1, l1])).bind fun (r3_0, r3_1) =>
         ((Go.Tx.ref08_Merged r1_0)).bind fun (r4_0, r4_1) =>
          if (!r4_0) = true then
           some (false, (r2_1, l1))
          else
           ((Go.Tx.ref08_Merged r2_0)).bind fun (r5_0, r5_1) =>
            if (!r5_0) = true then
             some (false, (r2_1, l1))
            else
             ((Go.Tx.ref08_Merged r3_0)).bind fun (r6_0, r6_1) =>
              if (!r6_0) = true then
               some (false, (r2_1, l1))
              else
               if (decide (((0 + r2_1.length) * 8) ≤ 140737488355328)) = true then
                if (decide (((([] ++ r2_1).length + l1.length) * 8) ≤ 140737488355328)) = true then
                 ((Go.Sx.runLoop law08_TablesMerges_b10 ((((([] ++ r2_1) ++ l1).length : Nat) : Int), ((0 : Int), (r2_1, (l1, (r4_1, (r5_1, (r6_1, ([x2, (0 : Int), (1114111 : Int), (1114112 : Int), (4294967295 : Int)], (([] ++ r2_1) ++ l1))))))))))).bind fun (r7_0, r7_1, r7_2, r7_3, r7_4, r7_5) =>
                  ((Go.Sx.runLoop law08_TablesMerges_b19 (((r7_5.length : Nat) : Int), ((0 : Int), (r7_0, (r7_1, (r7_2, (r7_3, (r7_4, r7_5))))))))).bind fun r8_0 =>
                   match r8_0 with
                   | .inl (r9_0, r9_1) =>
                    some (true, (r9_0, r9_1))
                   | .inr (r10_0, r10_1, r10_2) =>
                    some (r10_0, (r10_1, r10_2))
                else
                 none
               else
                none
end Go.Tx
