/- Part 10 of the proof of the statement that the last part names; it asks for no condition of its own. Here: GenT, GenR4A, GenL1A, PcRead2, PcSpl, PcRef, PcRef2, PcRef3, PcRef4, PcFull. -/
import Derived.Test.YtgkfbembnlgahaaGreatDoorQae
import Derived.Test.YtgkfbembnlgahaaGreatDoorQag
import Derived.Test.YtgkfbembnlgahaaGreatDoorQai
/- Printed by the driver (wip/drv): Go functions as pure Lean ones. -/
set_option linter.all false
set_option linter.unusedVariables false
set_option maxRecDepth 100000
namespace Go.Tx
open Go Go.Sx
/-! sabretache/tables.New -/
noncomputable def tables_New  : Option ((List (Int × Int × ByteArray × ByteArray × ByteArray × Bool) × List (Int × Int × Int) × List (Int × List (Int) × Bool × Bool) × List (Int × Int × Int) × List (Int × Int × Int) × List (ByteArray × Int × Int))) :=
  ((Go.Tx.chart_Ranges (bigK Go.Proofs.Tryz.f11 0))).bind fun (r0_0, r0_1, r0_2) =>
   ((Go.Tx.chart_Classes (bigK Go.Proofs.Tryz.f11 1))).bind fun (r1_0, r1_1, r1_2) =>
    ((Go.Tx.chart_Decomps (bigK Go.Proofs.Tryz.f11 2))).bind fun (r2_0, r2_1, r2_2) =>
     ((Go.Tx.chart_Runs (bigK Go.Proofs.Tryz.f11 3))).bind fun (r3_0, r3_1, r3_2) =>
      ((Go.Tx.chart_Runs (bigK Go.Proofs.Tryz.f11 4))).bind fun (r4_0, r4_1, r4_2) =>
       ((Go.Tx.chart_Sets (bigK Go.Proofs.Tryz.f11 5))).bind fun (r5_0, r5_1, r5_2) =>
        some (r0_2, (r1_2, (r2_2, (r3_2, (r4_2, r5_2)))))
/-! cmp.isNaN[uint32] -/
noncomputable def cmp_isNaN_uint32 (x0 : Int) : Option (Bool) :=
  some (x0 != x0)
/-! cmp.Compare[uint32] -/
noncomputable def cmp_Compare_uint32 (x0 : Int) (y1 : Int) : Option (Int) :=
  ((Go.Tx.cmp_isNaN_uint32 x0)).bind fun r0_0 =>
   ((Go.Tx.cmp_isNaN_uint32 y1)).bind fun r1_0 =>
    if r0_0 = true then
     if r1_0 = true then
      some (0 : Int)
     else
      some (-1 : Int)
    else
     if r1_0 = true then
      some (1 : Int)
     else
      if (decide (x0 < y1)) = true then
       some (-1 : Int)
      else
       if (decide (x0 > y1)) = true then
        some (1 : Int)
       else
        some (0 : Int)
/-! (*sabretache/tables.Tables).line$1 -/
noncomputable def tables_Tables_line_1 (d0_0 : Int) (d0_2 : Bool) (d0_3 : Bool) (p1 : Int) (l0 : List (Int)) : Option ((Int × List (Int))) :=
  ((Go.Tx.cmp_Compare_uint32 d0_0 p1)).bind fun r0_0 =>
   some (r0_0, l0)
/-! slices.BinarySearchFunc[[]sabretache/api.Decomp,sabretache/api.Decomp,uint32] -/
noncomputable def slices_BinarySearchFunc___b3 : Int × Int × Int × Int × List (Int × List (Int) × Bool × Bool) → Option ((Int × Int × Int × Int × List (Int × List (Int) × Bool × Bool)) ⊕ ((Int × Int × Int × List (Int × List (Int) × Bool × Bool)))) := fun
  | (target1, n8, i9, j10, l0) =>
  if (decide (i9 < j10)) = true then
   if ((decide ((0 : Int) ≤ (Go.IntKind.wrap .i64 (Int.fdiv (Go.IntKind.wrap .u64 (Go.IntKind.wrap .i64 (i9 + j10))) (2 : Int))))) && (decide ((Go.IntKind.wrap .i64 (Int.fdiv (Go.IntKind.wrap .u64 (Go.IntKind.wrap .i64 (i9 + j10))) (2 : Int))) < ((l0.length : Nat) : Int)))) = true then
    if (decide ((Go.IntKind.wrap .i64 (Int.fdiv (Go.IntKind.wrap .u64 (Go.IntKind.wrap .i64 (i9 + j10))) (2 : Int))).toNat < l0.length)) = true then
     ((Go.Tx.tables_Tables_line_1 (l0.getD (Go.IntKind.wrap .i64 (Int.fdiv (Go.IntKind.wrap .u64 (Go.IntKind.wrap .i64 (i9 + j10))) (2 : Int))).toNat ((0 : Int), ([], (false, false)))).1 (l0.getD (Go.IntKind.wrap .i64 (Int.fdiv (Go.IntKind.wrap .u64 (Go.IntKind.wrap .i64 (i9 + j10))) (2 : Int))).toNat ((0 : Int), ([], (false, false)))).2.2.1 (l0.getD (Go.IntKind.wrap .i64 (Int.fdiv (Go.IntKind.wrap .u64 (Go.IntKind.wrap .i64 (i9 + j10))) (2 : Int))).toNat ((0 : Int), ([], (false, false)))).2.2.2 target1 (l0.getD (Go.IntKind.wrap .i64 (Int.fdiv (Go.IntKind.wrap .u64 (Go.IntKind.wrap .i64 (i9 + j10))) (2 : Int))).toNat ((0 : Int), ([], (false, false)))).2.1)).bind fun (r0_0, r0_1) =>
      if (decide (r0_0 < (0 : Int))) = true then
       some (.inl (target1, (n8, ((Go.IntKind.wrap .i64 ((Go.IntKind.wrap .i64 (Int.fdiv (Go.IntKind.wrap .u64 (Go.IntKind.wrap .i64 (i9 + j10))) (2 : Int))) + (1 : Int))), (j10, l0)))))
      else
       some (.inl (target1, (n8, (i9, ((Go.IntKind.wrap .i64 (Int.fdiv (Go.IntKind.wrap .u64 (Go.IntKind.wrap .i64 (i9 + j10))) (2 : Int))), l0)))))
    else
     none
   else
    none
  else
   some (.inr (target1, (n8, (i9, l0))))
noncomputable def slices_BinarySearchFunc__ (target1 : Int) (l0 : List (Int × List (Int) × Bool × Bool)) : Option ((Int × Bool × List (Int × List (Int) × Bool × Bool))) :=
  ((Go.Sx.runLoop slices_BinarySearchFunc___b3 (target1, (((l0.length : Nat) : Int), ((0 : Int), (((l0.length : Nat) : Int), l0)))))).bind fun (r0_0, r0_1, r0_2, r0_3) =>
   if (decide (r0_2 < r0_1)) = true then
    if ((decide ((0 : Int) ≤ r0_2)) && (decide (r0_2 < ((r0_3.length : Nat) : Int)))) = true then
     if (decide (r0_2.toNat < r0_3.length)) = true then
      ((Go.Tx.tables_Tables_line_1 (r0_3.getD r0_2.toNat ((0 : Int), ([], (false, false)))).1 (r0_3.getD r0_2.toNat ((0 : Int), ([], (false, false)))).2.2.1 (r0_3.getD r0_2.toNat ((0 : Int), ([], (false, false)))).2.2.2 r0_0 (r0_3.getD r0_2.toNat ((0 : Int), ([], (false, false)))).2.1)).bind fun (r1_0, r1_1) =>
       some (r0_2, ((decide (r1_0 = (0 : Int))), r0_3))
     else
      none
    else
     none
   else
    some (r0_2, (false, r0_3))
/-! (*sabretache/tables.Tables).line -/
noncomputable def tables_Tables_line (p1 : Int) (compat2 : Bool) (l1 : List (Int × Int × ByteArray × ByteArray × ByteArray × Bool)) (l2 : List (Int × Int × Int)) (l3 : List (Int × List (Int) × Bool × Bool)) (l4 : List (Int × Int × Int)) (l5 : List (Int × Int × Int)) (l6 : List (ByteArray × Int × Int)) : Option ((Bool × Int × Bool × Bool × List (Int × Int × ByteArray × ByteArray × ByteArray × Bool) × List (Int × Int × Int) × List (Int × List (Int) × Bool × Bool) × List (Int × Int × Int) × List (Int × Int × Int) × List (ByteArray × Int × Int) × List (Int))) :=
  ((Go.Tx.slices_BinarySearchFunc__ p1 l3)).bind fun (r0_0, r0_1, r0_2) =>
   if (!r0_1) = true then
    some (false, ((0 : Int), (false, (false, (l1, (l2, (r0_2, (l4, (l5, (l6, []))))))))))
   else
    if ((decide ((0 : Int) ≤ r0_0)) && (decide (r0_0 < ((r0_2.length : Nat) : Int)))) = true then
     if (decide (r0_0.toNat < r0_2.length)) = true then
      if (r0_2.getD r0_0.toNat ((0 : Int), ([], (false, false)))).2.2.1 = true then
       if (!compat2) = true then
        some (false, ((0 : Int), (false, (false, (l1, (l2, (r0_2, (l4, (l5, (l6, []))))))))))
       else
        if ((decide ((0 : Int) ≤ r0_0)) && (decide (r0_0 < ((r0_2.length : Nat) : Int)))) = true then
         if (decide (r0_0.toNat < r0_2.length)) = true then
          some (true, ((r0_2.getD r0_0.toNat ((0 : Int), ([], (false, false)))).1, ((r0_2.getD r0_0.toNat ((0 : Int), ([], (false, false)))).2.2.1, ((r0_2.getD r0_0.toNat ((0 : Int), ([], (false, false)))).2.2.2, (l1, (l2, (r0_2, (l4, (l5, (l6, (r0_2.getD r0_0.toNat ((0 : Int), ([], (false, false)))).2.1))))))))))
         else
          none
        else
         none
      else
       if ((decide ((0 : Int) ≤ r0_0)) && (decide (r0_0 < ((r0_2.length : Nat) : Int)))) = true then
        if (decide (r0_0.toNat < r0_2.length)) = true then
         some (true, ((r0_2.getD r0_0.toNat ((0 : Int), ([], (false, false)))).1, ((r0_2.getD r0_0.toNat ((0 : Int), ([], (false, false)))).2.2.1, ((r0_2.getD r0_0.toNat ((0 : Int), ([], (false, false)))).2.2.2, (l1, (l2, (r0_2, (l4, (l5, (l6, (r0_2.getD r0_0.toNat ((0 : Int), ([], (false, false)))).2.1))))))))))
        else
         none
       else
        none
     else
      none
    else
     none
/-! (*sabretache/tables.Tables).full -/
noncomputable def tables_Tables_full_b6 (tables_Tables_full_rec : Int → Bool → (List (Int × Int × ByteArray × ByteArray × ByteArray × Bool)) → (List (Int × Int × Int)) → (List (Int × List (Int) × Bool × Bool)) → (List (Int × Int × Int)) → (List (Int × Int × Int)) → (List (ByteArray × Int × Int)) → Option ((List (Int) × List (Int × Int × ByteArray × ByteArray × ByteArray × Bool) × List (Int × Int × Int) × List (Int × List (Int) × Bool × Bool) × List (Int × Int × Int) × List (Int × Int × Int) × List (ByteArray × Int × Int)))) : Bool × Int × Int × List (Int) × List (Int × Int × ByteArray × ByteArray × ByteArray × Bool) × List (Int × Int × Int) × List (Int × List (Int) × Bool × Bool) × List (Int × Int × Int) × List (Int × Int × Int) × List (ByteArray × Int × Int) × List (Int) → Option ((Bool × Int × Int × List (Int) × List (Int × Int × ByteArray × ByteArray × ByteArray × Bool) × List (Int × Int × Int) × List (Int × List (Int) × Bool × Bool) × List (Int × Int × Int) × List (Int × Int × Int) × List (ByteArray × Int × Int) × List (Int)) ⊕ ((List (Int) × List (Int × Int × ByteArray × ByteArray × ByteArray × Bool) × List (Int × Int × Int) × List (Int × List (Int) × Bool × Bool) × List (Int × Int × Int) × List (Int × Int × Int) × List (ByteArray × Int × Int)))) := fun
  | (compat2, t25, t26, l1160, l1, l2, l3, l4, l5, l6, l5000) =>
  if (decide (t26 < t25)) = true then
   if ((decide ((0 : Int) ≤ t26)) && (decide (t26 < ((l1160.length : Nat) : Int)))) = true then
    if (decide (t26.toNat < l1160.length)) = true then
     ((tables_Tables_full_rec (l1160.getD t26.toNat (0 : Int)) compat2 l1 l2 l3 l4 l5 l6)).bind fun (r0_0, r0_1, r0_2, r0_3, r0_4, r0_5, r0_6) =>
      if (decide (((l5000.length + r0_0.length) * 4) ≤ 140737488355328)) = true then
       some (.inl (compat2, (t25, ((Go.IntKind.wrap .i64 (t26 + (1 : Int))), (l1160, (r0_1, (r0_2, (r0_3, (r0_4, (r0_5, (r0_6, (l5000 ++ r0_0))))))))))))
      else
       none
    else
     none
   else
    none
  else
   some (.inr (l5000, (l1, (l2, (l3, (l4, (l5, l6)))))))
noncomputable def tables_Tables_full_r (tables_Tables_full_rec : Int → Bool → (List (Int × Int × ByteArray × ByteArray × ByteArray × Bool)) → (List (Int × Int × Int)) → (List (Int × List (Int) × Bool × Bool)) → (List (Int × Int × Int)) → (List (Int × Int × Int)) → (List (ByteArray × Int × Int)) → Option ((List (Int) × List (Int × Int × ByteArray × ByteArray × ByteArray × Bool) × List (Int × Int × Int) × List (Int × List (Int) × Bool × Bool) × List (Int × Int × Int) × List (Int × Int × Int) × List (ByteArray × Int × Int)))) (p1 : Int) (compat2 : Bool) (l1 : List (Int × Int × ByteArray × ByteArray × ByteArray × Bool)) (l2 : List (Int × Int × Int)) (l3 : List (Int × List (Int) × Bool × Bool)) (l4 : List (Int × Int × Int)) (l5 : List (Int × Int × Int)) (l6 : List (ByteArray × Int × Int)) : Option ((List (Int) × List (Int × Int × ByteArray × ByteArray × ByteArray × Bool) × List (Int × Int × Int) × List (Int × List (Int) × Bool × Bool) × List (Int × Int × Int) × List (Int × Int × Int) × List (ByteArray × Int × Int))) :=
  ((Go.Tx.tables_Tables_line p1 compat2 l1 l2 l3 l4 l5 l6)).bind fun (r0_0, r0_1, r0_2, r0_3, r0_4, r0_5, r0_6, r0_7, r0_8, r0_9, r0_10) =>
   if (!r0_0) = true then
    some ([p1], (r0_4, (r0_5, (r0_6, (r0_7, (r0_8, r0_9))))))
   else
    ((Go.Sx.runLoop (tables_Tables_full_b6 tables_Tables_full_rec) (compat2, (((r0_10.length : Nat) : Int), ((0 : Int), (r0_10, (r0_4, (r0_5, (r0_6, (r0_7, (r0_8, (r0_9, [])))))))))))).bind fun (r1_0, r1_1, r1_2, r1_3, r1_4, r1_5, r1_6) =>
     some (r1_0, (r1_1, (r1_2, (r1_3, (r1_4, (r1_5, r1_6))))))
noncomputable def tables_Tables_full_n : Nat → Int → Bool → (List (Int × Int × ByteArray × ByteArray × ByteArray × Bool)) → (List (Int × Int × Int)) → (List (Int × List (Int) × Bool × Bool)) → (List (Int × Int × Int)) → (List (Int × Int × Int)) → (List (ByteArray × Int × Int)) → Option ((List (Int) × List (Int × Int × ByteArray × ByteArray × ByteArray × Bool) × List (Int × Int × Int) × List (Int × List (Int) × Bool × Bool) × List (Int × Int × Int) × List (Int × Int × Int) × List (ByteArray × Int × Int)))
  | 0, _, _, _, _, _, _, _, _ => none
  | n + 1, p1, compat2, l1, l2, l3, l4, l5, l6 => tables_Tables_full_r (tables_Tables_full_n n) p1 compat2 l1 l2 l3 l4 l5 l6
/-- It calls itself: sixty-four deep at most. -/
noncomputable def tables_Tables_full : Int → Bool → (List (Int × Int × ByteArray × ByteArray × ByteArray × Bool)) → (List (Int × Int × Int)) → (List (Int × List (Int) × Bool × Bool)) → (List (Int × Int × Int)) → (List (Int × Int × Int)) → (List (ByteArray × Int × Int)) → Option ((List (Int) × List (Int × Int × ByteArray × ByteArray × ByteArray × Bool) × List (Int × Int × Int) × List (Int × List (Int) × Bool × Bool) × List (Int × Int × Int) × List (Int × Int × Int) × List (ByteArray × Int × Int))) := tables_Tables_full_n 64
/-! (*sabretache/tables.Tables).Full -/
noncomputable def tables_Tables_Full_b5 : Bool × Int × Int × List (Int × List (Int) × Bool × Bool) × List (Int × Int × ByteArray × ByteArray × ByteArray × Bool) × List (Int × Int × Int) × List (Int × Int × Int) × List (Int × Int × Int) × List (ByteArray × Int × Int) × List (Int) × List (List (Int)) → Option ((Bool × Int × Int × List (Int × List (Int) × Bool × Bool) × List (Int × Int × ByteArray × ByteArray × ByteArray × Bool) × List (Int × Int × Int) × List (Int × Int × Int) × List (Int × Int × Int) × List (ByteArray × Int × Int) × List (Int) × List (List (Int))) ⊕ ((List (Int × List (Int) × Bool × Bool) × List (Int × Int × ByteArray × ByteArray × ByteArray × Bool) × List (Int × Int × Int) × List (Int × Int × Int) × List (Int × Int × Int) × List (ByteArray × Int × Int) × List (Int) × List (List (Int))))) := fun
  | (compat1, t16, t17, l3, l1, l2, l4, l5, l6, l5000, l5001) =>
  if (decide (t17 < t16)) = true then
   if ((decide ((0 : Int) ≤ t17)) && (decide (t17 < ((l3.length : Nat) : Int)))) = true then
    if (decide (t17.toNat < l3.length)) = true then
     if (l3.getD t17.toNat ((0 : Int), ([], (false, false)))).2.2.1 = true then
      if (!compat1) = true then
       some (.inl (compat1, (t16, ((Go.IntKind.wrap .i64 (t17 + (1 : Int))), (l3, (l1, (l2, (l4, (l5, (l6, (l5000, l5001)))))))))))
      else
       ((Go.Tx.tables_Tables_full (l3.getD t17.toNat ((0 : Int), ([], (false, false)))).1 compat1 l1 l2 l3 l4 l5 l6)).bind fun (r0_0, r0_1, r0_2, r0_3, r0_4, r0_5, r0_6) =>
        if (decide (((l5000.length + [(l3.getD t17.toNat ((0 : Int), ([], (false, false)))).1].length) * 4) ≤ 140737488355328)) = true then
         if (decide (((l5001.length + [((List.take (if (r0_0.length ≤ 3) then r0_0.length else 3) r0_0) ++ (List.drop (if (r0_0.length ≤ 3) then r0_0.length else 3) (List.replicate 3 (0 : Int))))].length) * 24) ≤ 140737488355328)) = true then
          some (.inl (compat1, (t16, ((Go.IntKind.wrap .i64 (t17 + (1 : Int))), (r0_3, (r0_1, (r0_2, (r0_4, (r0_5, (r0_6, ((l5000 ++ [(l3.getD t17.toNat ((0 : Int), ([], (false, false)))).1]), (l5001 ++ [((List.take (if (r0_0.length ≤ 3) then r0_0.length else 3) r0_0) ++ (List.drop (if (r0_0.length ≤ 3) then r0_0.length else 3) (List.replicate 3 (0 : Int))))]))))))))))))
         else
          none
        else
         none
     else
      ((Go.Tx.tables_Tables_full (l3.getD t17.toNat ((0 : Int), ([], (false, false)))).1 compat1 l1 l2 l3 l4 l5 l6)).bind fun (r1_0, r1_1, r1_2, r1_3, r1_4, r1_5, r1_6) =>
       if (decide (((l5000.length + [(l3.getD t17.toNat ((0 : Int), ([], (false, false)))).1].length) * 4) ≤ 140737488355328)) = true then
        if (decide (((l5001.length + [((List.take (if (r1_0.length ≤ 3) then r1_0.length else 3) r1_0) ++ (List.drop (if (r1_0.length ≤ 3) then r1_0.length else 3) (List.replicate 3 (0 : Int))))].length) * 24) ≤ 140737488355328)) = true then
         some (.inl (compat1, (t16, ((Go.IntKind.wrap .i64 (t17 + (1 : Int))), (r1_3, (r1_1, (r1_2, (r1_4, (r1_5, (r1_6, ((l5000 ++ [(l3.getD t17.toNat ((0 : Int), ([], (false, false)))).1]), (l5001 ++ [((List.take (if (r1_0.length ≤ 3) then r1_0.length else 3) r1_0) ++ (List.drop (if (r1_0.length ≤ 3) then r1_0.length else 3) (List.replicate 3 (0 : Int))))]))))))))))))
        else
         none
       else
        none
    else
     none
   else
    none
  else
   some (.inr (l3, (l1, (l2, (l4, (l5, (l6, (l5000, l5001))))))))
noncomputable def tables_Tables_Full (compat1 : Bool) (l1 : List (Int × Int × ByteArray × ByteArray × ByteArray × Bool)) (l2 : List (Int × Int × Int)) (l3 : List (Int × List (Int) × Bool × Bool)) (l4 : List (Int × Int × Int)) (l5 : List (Int × Int × Int)) (l6 : List (ByteArray × Int × Int)) : Option ((List (Int × List (Int) × Bool × Bool) × List (Int × Int × ByteArray × ByteArray × ByteArray × Bool) × List (Int × Int × Int) × List (Int × Int × Int) × List (Int × Int × Int) × List (ByteArray × Int × Int) × List (Int) × List (List (Int)))) :=
  ((Go.Sx.runLoop tables_Tables_Full_b5 (compat1, (((l3.length : Nat) : Int), ((0 : Int), (l3, (l1, (l2, (l4, (l5, (l6, ([], [])))))))))))).bind fun (r0_0, r0_1, r0_2, r0_3, r0_4, r0_5, r0_6, r0_7) =>
   some (r0_0, (r0_1, (r0_2, (r0_3, (r0_4, (r0_5, (r0_6, r0_7)))))))
/-! sabretache/sabretachelaw08.awake -/
noncomputable def law08_awake_b3 : Int × Int × List (Int) × List (List (Int)) → Option ((Int × Int × List (Int) × List (List (Int))) ⊕ (Bool ⊕ Unit)) := fun
  | (t8, t9, l1050, l1051) =>
  if (decide (t9 < t8)) = true then
   if ((decide ((0 : Int) ≤ t9)) && (decide (t9 < ((l1050.length : Nat) : Int)))) = true then
    if (decide (t9.toNat < l1050.length)) = true then
     if (decide ((l1050.getD t9.toNat (0 : Int)) = (469 : Int))) = true then
      if ((decide ((0 : Int) ≤ t9)) && (decide (t9 < ((l1051.length : Nat) : Int)))) = true then
       if (decide (t9.toNat < l1051.length)) = true then
        if (decide ((((l1051.getD t9.toNat []).length : Nat) : Int) = (3 : Int))) = true then
         if ((decide ((0 : Int) ≤ t9)) && (decide (t9 < ((l1051.length : Nat) : Int)))) = true then
          if (decide (t9.toNat < l1051.length)) = true then
           if (decide ((0 : Int) < (((l1051.getD t9.toNat []).length : Nat) : Int))) = true then
            if (decide (0 < (l1051.getD t9.toNat []).length)) = true then
             if (decide (((l1051.getD t9.toNat []).getD 0 (0 : Int)) = (85 : Int))) = true then
              if ((decide ((0 : Int) ≤ t9)) && (decide (t9 < ((l1051.length : Nat) : Int)))) = true then
               if (decide (t9.toNat < l1051.length)) = true then
                if (decide ((1 : Int) < (((l1051.getD t9.toNat []).length : Nat) : Int))) = true then
                 if (decide (1 < (l1051.getD t9.toNat []).length)) = true then
                  if (decide (((l1051.getD t9.toNat []).getD 1 (0 : Int)) = (776 : Int))) = true then
                   if ((decide ((0 : Int) ≤ t9)) && (decide (t9 < ((l1051.length : Nat) : Int)))) = true then
                    if (decide (t9.toNat < l1051.length)) = true then
                     if (decide ((2 : Int) < (((l1051.getD t9.toNat []).length : Nat) : Int))) = true then
                      if (decide (2 < (l1051.getD t9.toNat []).length)) = true then
                       some (.inr (.inl (decide (((l1051.getD t9.toNat []).getD 2 (0 : Int)) = (772 : Int)))))
                      else
                       none
                     else
                      none
                    else
                     none
                   else
                    none
                  else
                   some (.inr (.inl false))
                 else
                  none
                else
                 none
               else
                none
              else
               none
             else
              some (.inr (.inl false))
            else
             none
           else
            none
          else
           none
         else
          none
        else
         some (.inr (.inl false))
       else
        none
      else
       none
     else
      some (.inl (t8, ((Go.IntKind.wrap .i64 (t9 + (1 : Int))), (l1050, l1051))))
    else
     none
   else
    none
  else
   some (.inr (.inr ()))
noncomputable def law08_awake  : Option (Bool) :=
  (Go.Tx.tables_New).bind fun (r0_0, r0_1, r0_2, r0_3, r0_4, r0_5) =>
   ((Go.Tx.tables_Tables_Full false r0_0 r0_1 r0_2 r0_3 r0_4 r0_5)).bind fun (r1_0, r1_1, r1_2, r1_3, r1_4, r1_5, r1_6, r1_7) =>
    ((Go.Sx.runLoop law08_awake_b3 (((r1_6.length : Nat) : Int), ((0 : Int), (r1_6, r1_7))))).bind fun r2_0 =>
     match r2_0 with
     | .inl r3_0 =>
      some r3_0
     | .inr _ =>
      some false
end Go.Tx

/- Printed by the driver (wip/drv): Go functions as pure Lean ones. -/
set_option linter.all false
set_option linter.unusedVariables false
set_option maxRecDepth 100000
namespace Go.Tx
open Go Go.Sx
/-! sabretache/sabretacheref08.New -/
noncomputable def ref08_New  : Option ((List (Int × Int × ByteArray × ByteArray × ByteArray × Bool) × List (Int × Int × Int) × List (Int × List (Int) × Bool × Bool) × List (Int × Int × Int) × List (Int × Int × Int) × List (ByteArray × Int × Int))) :=
  ((Go.Tx.ref07_Ranges (bigK Go.Proofs.Tryz.f11 0))).bind fun (r0_0, r0_1) =>
   ((Go.Tx.ref07_Classes (bigK Go.Proofs.Tryz.f11 1))).bind fun (r1_0, r1_1) =>
    ((Go.Tx.ref07_Decomps (bigK Go.Proofs.Tryz.f11 2))).bind fun (r2_0, r2_1) =>
     ((Go.Tx.ref07_Runs (bigK Go.Proofs.Tryz.f11 3))).bind fun (r3_0, r3_1) =>
      ((Go.Tx.ref07_Runs (bigK Go.Proofs.Tryz.f11 4))).bind fun (r4_0, r4_1) =>
       ((Go.Tx.ref07_Sets (bigK Go.Proofs.Tryz.f11 5))).bind fun (r5_0, r5_1) =>
        some (r0_1, (r1_1, (r2_1, (r3_1, (r4_1, r5_1)))))
/-! (sabretache/sabretacheref08.Tables).Line -/
noncomputable def ref08_Tables_Line_b2 : Int × Bool × Int × List (Int × Int × ByteArray × ByteArray × ByteArray × Bool) × List (Int × Int × Int) × List (Int × List (Int) × Bool × Bool) × List (Int × Int × Int) × List (Int × Int × Int) × List (ByteArray × Int × Int) → Option ((Int × Bool × Int × List (Int × Int × ByteArray × ByteArray × ByteArray × Bool) × List (Int × Int × Int) × List (Int × List (Int) × Bool × Bool) × List (Int × Int × Int) × List (Int × Int × Int) × List (ByteArray × Int × Int)) ⊕ ((Int × List (Int × Int × ByteArray × ByteArray × ByteArray × Bool) × List (Int × Int × Int) × List (Int × List (Int) × Bool × Bool) × List (Int × Int × Int) × List (Int × Int × Int) × List (ByteArray × Int × Int)) ⊕ (List (Int × Int × ByteArray × ByteArray × ByteArray × Bool) × List (Int × Int × Int) × List (Int × List (Int) × Bool × Bool) × List (Int × Int × Int) × List (Int × Int × Int) × List (ByteArray × Int × Int)))) := fun
  | (p1, compat2, i7, l0, l1, l2, l3, l4, l5) =>
  if (decide (i7 < ((l2.length : Nat) : Int))) = true then
   if ((decide ((0 : Int) ≤ i7)) && (decide (i7 < ((l2.length : Nat) : Int)))) = true then
    if (decide (i7.toNat < l2.length)) = true then
     if (decide ((l2.getD i7.toNat ((0 : Int), ([], (false, false)))).1 = p1)) = true then
      if compat2 = true then
       some (.inr (.inl (i7, (l0, (l1, (l2, (l3, (l4, l5))))))))
      else
       if ((decide ((0 : Int) ≤ i7)) && (decide (i7 < ((l2.length : Nat) : Int)))) = true then
        if (decide (i7.toNat < l2.length)) = true then
         if (!(l2.getD i7.toNat ((0 : Int), ([], (false, false)))).2.2.1) = true then
          some (.inr (.inl (i7, (l0, (l1, (l2, (l3, (l4, l5))))))))
         else
          some (.inl (p1, (compat2, ((Go.IntKind.wrap .i64 (i7 + (1 : Int))), (l0, (l1, (l2, (l3, (l4, l5)))))))))
        else
         none
       else
        none
     else
      some (.inl (p1, (compat2, ((Go.IntKind.wrap .i64 (i7 + (1 : Int))), (l0, (l1, (l2, (l3, (l4, l5)))))))))
    else
     none
   else
    none
  else
   some (.inr (.inr (l0, (l1, (l2, (l3, (l4, l5)))))))
noncomputable def ref08_Tables_Line (p1 : Int) (compat2 : Bool) (l0 : List (Int × Int × ByteArray × ByteArray × ByteArray × Bool)) (l1 : List (Int × Int × Int)) (l2 : List (Int × List (Int) × Bool × Bool)) (l3 : List (Int × Int × Int)) (l4 : List (Int × Int × Int)) (l5 : List (ByteArray × Int × Int)) : Option ((Int × List (Int × Int × ByteArray × ByteArray × ByteArray × Bool) × List (Int × Int × Int) × List (Int × List (Int) × Bool × Bool) × List (Int × Int × Int) × List (Int × Int × Int) × List (ByteArray × Int × Int))) :=
  ((Go.Sx.runLoop ref08_Tables_Line_b2 (p1, (compat2, ((0 : Int), (l0, (l1, (l2, (l3, (l4, l5)))))))))).bind fun r0_0 =>
   match r0_0 with
   | .inl (r1_0, r1_1, r1_2, r1_3, r1_4, r1_5, r1_6) =>
    some (r1_0, (r1_1, (r1_2, (r1_3, (r1_4, (r1_5, r1_6))))))
   | .inr (r2_0, r2_1, r2_2, r2_3, r2_4, r2_5) =>
    some ((-1 : Int), (r2_0, (r2_1, (r2_2, (r2_3, (r2_4, r2_5))))))
/-! (sabretache/sabretacheref08.Tables).Full -/
noncomputable def ref08_Tables_Full_b6 (ref08_Tables_Full_rec : Int → Bool → (List (Int × Int × ByteArray × ByteArray × ByteArray × Bool)) → (List (Int × Int × Int)) → (List (Int × List (Int) × Bool × Bool)) → (List (Int × Int × Int)) → (List (Int × Int × Int)) → (List (ByteArray × Int × Int)) → Option ((List (Int) × List (Int × Int × ByteArray × ByteArray × ByteArray × Bool) × List (Int × Int × Int) × List (Int × List (Int) × Bool × Bool) × List (Int × Int × Int) × List (Int × Int × Int) × List (ByteArray × Int × Int)))) : Bool × Int × Int × List (Int × Int × ByteArray × ByteArray × ByteArray × Bool) × List (Int × Int × Int) × List (Int × List (Int) × Bool × Bool) × List (Int × Int × Int) × List (Int × Int × Int) × List (ByteArray × Int × Int) × List (Int) → Option ((Bool × Int × Int × List (Int × Int × ByteArray × ByteArray × ByteArray × Bool) × List (Int × Int × Int) × List (Int × List (Int) × Bool × Bool) × List (Int × Int × Int) × List (Int × Int × Int) × List (ByteArray × Int × Int) × List (Int)) ⊕ ((List (Int) × List (Int × Int × ByteArray × ByteArray × ByteArray × Bool) × List (Int × Int × Int) × List (Int × List (Int) × Bool × Bool) × List (Int × Int × Int) × List (Int × Int × Int) × List (ByteArray × Int × Int)))) := fun
  | (compat2, i7, k9, l0, l1, l2, l3, l4, l5, l5000) =>
  if ((decide ((0 : Int) ≤ i7)) && (decide (i7 < ((l2.length : Nat) : Int)))) = true then
   if (decide (i7.toNat < l2.length)) = true then
    if (decide (k9 < (((l2.getD i7.toNat ((0 : Int), ([], (false, false)))).2.1.length : Nat) : Int))) = true then
     if ((decide ((0 : Int) ≤ i7)) && (decide (i7 < ((l2.length : Nat) : Int)))) = true then
      if (decide (i7.toNat < l2.length)) = true then
       if ((decide ((0 : Int) ≤ k9)) && (decide (k9 < (((l2.getD i7.toNat ((0 : Int), ([], (false, false)))).2.1.length : Nat) : Int)))) = true then
        if (decide (k9.toNat < (l2.getD i7.toNat ((0 : Int), ([], (false, false)))).2.1.length)) = true then
         ((ref08_Tables_Full_rec ((l2.getD i7.toNat ((0 : Int), ([], (false, false)))).2.1.getD k9.toNat (0 : Int)) compat2 l0 l1 l2 l3 l4 l5)).bind fun (r0_0, r0_1, r0_2, r0_3, r0_4, r0_5, r0_6) =>
          if (decide (((l5000.length + r0_0.length) * 4) ≤ 140737488355328)) = true then
           some (.inl (compat2, (i7, ((Go.IntKind.wrap .i64 (k9 + (1 : Int))), (r0_1, (r0_2, (r0_3, (r0_4, (r0_5, (r0_6, (l5000 ++ r0_0)))))))))))
          else
           none
        else
         none
       else
        none
      else
       none
     else
      none
    else
     some (.inr (l5000, (l0, (l1, (l2, (l3, (l4, l5)))))))
   else
    none
  else
   none
noncomputable def ref08_Tables_Full_r (ref08_Tables_Full_rec : Int → Bool → (List (Int × Int × ByteArray × ByteArray × ByteArray × Bool)) → (List (Int × Int × Int)) → (List (Int × List (Int) × Bool × Bool)) → (List (Int × Int × Int)) → (List (Int × Int × Int)) → (List (ByteArray × Int × Int)) → Option ((List (Int) × List (Int × Int × ByteArray × ByteArray × ByteArray × Bool) × List (Int × Int × Int) × List (Int × List (Int) × Bool × Bool) × List (Int × Int × Int) × List (Int × Int × Int) × List (ByteArray × Int × Int)))) (p1 : Int) (compat2 : Bool) (l0 : List (Int × Int × ByteArray × ByteArray × ByteArray × Bool)) (l1 : List (Int × Int × Int)) (l2 : List (Int × List (Int) × Bool × Bool)) (l3 : List (Int × Int × Int)) (l4 : List (Int × Int × Int)) (l5 : List (ByteArray × Int × Int)) : Option ((List (Int) × List (Int × Int × ByteArray × ByteArray × ByteArray × Bool) × List (Int × Int × Int) × List (Int × List (Int) × Bool × Bool) × List (Int × Int × Int) × List (Int × Int × Int) × List (ByteArray × Int × Int))) :=
  ((Go.Tx.ref08_Tables_Line p1 compat2 l0 l1 l2 l3 l4 l5)).bind fun (r0_0, r0_1, r0_2, r0_3, r0_4, r0_5, r0_6) =>
   if (decide (r0_0 < (0 : Int))) = true then
    some ([p1], (r0_1, (r0_2, (r0_3, (r0_4, (r0_5, r0_6))))))
   else
    ((Go.Sx.runLoop (ref08_Tables_Full_b6 ref08_Tables_Full_rec) (compat2, (r0_0, ((0 : Int), (r0_1, (r0_2, (r0_3, (r0_4, (r0_5, (r0_6, []))))))))))).bind fun (r1_0, r1_1, r1_2, r1_3, r1_4, r1_5, r1_6) =>
     some (r1_0, (r1_1, (r1_2, (r1_3, (r1_4, (r1_5, r1_6))))))
noncomputable def ref08_Tables_Full_n : Nat → Int → Bool → (List (Int × Int × ByteArray × ByteArray × ByteArray × Bool)) → (List (Int × Int × Int)) → (List (Int × List (Int) × Bool × Bool)) → (List (Int × Int × Int)) → (List (Int × Int × Int)) → (List (ByteArray × Int × Int)) → Option ((List (Int) × List (Int × Int × ByteArray × ByteArray × ByteArray × Bool) × List (Int × Int × Int) × List (Int × List (Int) × Bool × Bool) × List (Int × Int × Int) × List (Int × Int × Int) × List (ByteArray × Int × Int)))
  | 0, _, _, _, _, _, _, _, _ => none
  | n + 1, p1, compat2, l0, l1, l2, l3, l4, l5 => ref08_Tables_Full_r (ref08_Tables_Full_n n) p1 compat2 l0 l1 l2 l3 l4 l5
/-- It calls itself: sixty-four deep at most. -/
noncomputable def ref08_Tables_Full : Int → Bool → (List (Int × Int × ByteArray × ByteArray × ByteArray × Bool)) → (List (Int × Int × Int)) → (List (Int × List (Int) × Bool × Bool)) → (List (Int × Int × Int)) → (List (Int × Int × Int)) → (List (ByteArray × Int × Int)) → Option ((List (Int) × List (Int × Int × ByteArray × ByteArray × ByteArray × Bool) × List (Int × Int × Int) × List (Int × List (Int) × Bool × Bool) × List (Int × Int × Int) × List (Int × Int × Int) × List (ByteArray × Int × Int))) := ref08_Tables_Full_n 64
end Go.Tx

/- Printed by the driver (wip/drv): Go functions as pure Lean ones. -/
set_option linter.all false
set_option linter.unusedVariables false
set_option maxRecDepth 100000
namespace Go.Tx
open Go Go.Sx
/-! sabretache/sabretachelaw08.TablesFull -/
noncomputable def law08_TablesFull_b13 : Bool × Int × Int × Int × Int × Int × List (Int) × List (Int) × List (Int × Int × ByteArray × ByteArray × ByteArray × Bool) × List (Int × Int × Int) × List (Int × List (Int) × Bool × Bool) × List (Int × Int × Int) × List (Int × Int × Int) × List (ByteArray × Int × Int) × List (List (Int)) → Option ((Bool × Int × Int × Int × Int × Int × List (Int) × List (Int) × List (Int × Int × ByteArray × ByteArray × ByteArray × Bool) × List (Int × Int × Int) × List (Int × List (Int) × Bool × Bool) × List (Int × Int × Int) × List (Int × Int × Int) × List (ByteArray × Int × Int) × List (List (Int))) ⊕ (Bool ⊕ (Bool × Int × Int × Int × List (Int) × List (Int × Int × ByteArray × ByteArray × ByteArray × Bool) × List (Int × Int × Int) × List (Int × List (Int) × Bool × Bool) × List (Int × Int × Int) × List (Int × Int × Int) × List (ByteArray × Int × Int) × List (Int) × List (List (Int))))) := fun
  | (compat2, q11, there12, t51, t57, t58, l149, l1230, l1200, l1201, l1202, l1203, l1204, l1205, l1231) =>
  if (decide (t58 < t57)) = true then
   if ((decide ((0 : Int) ≤ t58)) && (decide (t58 < ((l1230.length : Nat) : Int)))) = true then
    if (decide (t58.toNat < l1230.length)) = true then
     if (decide ((l1230.getD t58.toNat (0 : Int)) = q11)) = true then
      if (decide (t58 > (0 : Int))) = true then
       if ((decide ((0 : Int) ≤ (Go.IntKind.wrap .i64 (t58 - (1 : Int))))) && (decide ((Go.IntKind.wrap .i64 (t58 - (1 : Int))) < ((l1230.length : Nat) : Int)))) = true then
        if (decide ((Go.IntKind.wrap .i64 (t58 - (1 : Int))).toNat < l1230.length)) = true then
         if (decide ((l1230.getD (Go.IntKind.wrap .i64 (t58 - (1 : Int))).toNat (0 : Int)) ≥ (l1230.getD t58.toNat (0 : Int)))) = true then
          some (.inr (.inl false))
         else
          some (.inl (compat2, (q11, (t58, (t51, (t57, ((Go.IntKind.wrap .i64 (t58 + (1 : Int))), (l149, (l1230, (l1200, (l1201, (l1202, (l1203, (l1204, (l1205, l1231)))))))))))))))
        else
         none
       else
        none
      else
       some (.inl (compat2, (q11, (t58, (t51, (t57, ((Go.IntKind.wrap .i64 (t58 + (1 : Int))), (l149, (l1230, (l1200, (l1201, (l1202, (l1203, (l1204, (l1205, l1231)))))))))))))))
     else
      if (decide (t58 > (0 : Int))) = true then
       if ((decide ((0 : Int) ≤ (Go.IntKind.wrap .i64 (t58 - (1 : Int))))) && (decide ((Go.IntKind.wrap .i64 (t58 - (1 : Int))) < ((l1230.length : Nat) : Int)))) = true then
        if (decide ((Go.IntKind.wrap .i64 (t58 - (1 : Int))).toNat < l1230.length)) = true then
         if (decide ((l1230.getD (Go.IntKind.wrap .i64 (t58 - (1 : Int))).toNat (0 : Int)) ≥ (l1230.getD t58.toNat (0 : Int)))) = true then
          some (.inr (.inl false))
         else
          some (.inl (compat2, (q11, (there12, (t51, (t57, ((Go.IntKind.wrap .i64 (t58 + (1 : Int))), (l149, (l1230, (l1200, (l1201, (l1202, (l1203, (l1204, (l1205, l1231)))))))))))))))
        else
         none
       else
        none
      else
       some (.inl (compat2, (q11, (there12, (t51, (t57, ((Go.IntKind.wrap .i64 (t58 + (1 : Int))), (l149, (l1230, (l1200, (l1201, (l1202, (l1203, (l1204, (l1205, l1231)))))))))))))))
    else
     none
   else
    none
  else
   some (.inr (.inr (compat2, (q11, (there12, (t51, (l149, (l1200, (l1201, (l1202, (l1203, (l1204, (l1205, (l1230, l1231))))))))))))))
noncomputable def law08_TablesFull_b25 : Bool × Int × Int × Int × Int × List (Int) × List (Int) × List (Int) × List (Int × Int × ByteArray × ByteArray × ByteArray × Bool) × List (Int × Int × Int) × List (Int × List (Int) × Bool × Bool) × List (Int × Int × Int) × List (Int × Int × Int) × List (ByteArray × Int × Int) × List (Int) × List (List (Int)) → Option ((Bool × Int × Int × Int × Int × List (Int) × List (Int) × List (Int) × List (Int × Int × ByteArray × ByteArray × ByteArray × Bool) × List (Int × Int × Int) × List (Int × List (Int) × Bool × Bool) × List (Int × Int × Int) × List (Int × Int × Int) × List (ByteArray × Int × Int) × List (Int) × List (List (Int))) ⊕ (Bool ⊕ (Bool × Int × Int × List (Int) × List (Int) × List (Int × Int × ByteArray × ByteArray × ByteArray × Bool) × List (Int × Int × Int) × List (Int × List (Int) × Bool × Bool) × List (Int × Int × Int) × List (Int × Int × Int) × List (ByteArray × Int × Int) × List (Int) × List (List (Int))))) := fun
  | (compat2, there12, t51, t99, t100, l1930, l149, l1980, l1200, l1201, l1202, l1203, l1204, l1205, l1230, l1231) =>
  if (decide (t100 < t99)) = true then
   if ((decide ((0 : Int) ≤ t100)) && (decide (t100 < ((l1980.length : Nat) : Int)))) = true then
    if (decide (t100.toNat < l1980.length)) = true then
     if (decide (t100 < ((l1930.length : Nat) : Int))) = true then
      if ((decide ((0 : Int) ≤ t100)) && (decide (t100 < ((l1930.length : Nat) : Int)))) = true then
       if (decide (t100.toNat < l1930.length)) = true then
        if ((l1980.getD t100.toNat (0 : Int)) != (l1930.getD t100.toNat (0 : Int))) = true then
         some (.inr (.inl false))
        else
         if (decide (t100 ≥ ((l1930.length : Nat) : Int))) = true then
          if ((l1980.getD t100.toNat (0 : Int)) != (0 : Int)) = true then
           some (.inr (.inl false))
          else
           some (.inl (compat2, (there12, (t51, (t99, ((Go.IntKind.wrap .i64 (t100 + (1 : Int))), (l1930, (l149, (l1980, (l1200, (l1201, (l1202, (l1203, (l1204, (l1205, (l1230, l1231))))))))))))))))
         else
          some (.inl (compat2, (there12, (t51, (t99, ((Go.IntKind.wrap .i64 (t100 + (1 : Int))), (l1930, (l149, (l1980, (l1200, (l1201, (l1202, (l1203, (l1204, (l1205, (l1230, l1231))))))))))))))))
       else
        none
      else
       none
     else
      if (decide (t100 ≥ ((l1930.length : Nat) : Int))) = true then
       if ((l1980.getD t100.toNat (0 : Int)) != (0 : Int)) = true then
        some (.inr (.inl false))
       else
        some (.inl (compat2, (there12, (t51, (t99, ((Go.IntKind.wrap .i64 (t100 + (1 : Int))), (l1930, (l149, (l1980, (l1200, (l1201, (l1202, (l1203, (l1204, (l1205, (l1230, l1231))))))))))))))))
      else
       some (.inl (compat2, (there12, (t51, (t99, ((Go.IntKind.wrap .i64 (t100 + (1 : Int))), (l1930, (l149, (l1980, (l1200, (l1201, (l1202, (l1203, (l1204, (l1205, (l1230, l1231))))))))))))))))
    else
     none
   else
    none
  else
   some (.inr (.inr (compat2, (there12, (t51, (l1930, (l149, (l1200, (l1201, (l1202, (l1203, (l1204, (l1205, (l1230, l1231))))))))))))))
noncomputable def law08_TablesFull_b9 : Bool × Int × List (Int) × List (Int × Int × ByteArray × ByteArray × ByteArray × Bool) × List (Int × Int × Int) × List (Int × List (Int) × Bool × Bool) × List (Int × Int × Int) × List (Int × Int × Int) × List (ByteArray × Int × Int) × List (Int) × List (List (Int)) → Option ((Bool × Int × List (Int) × List (Int × Int × ByteArray × ByteArray × ByteArray × Bool) × List (Int × Int × Int) × List (Int × List (Int) × Bool × Bool) × List (Int × Int × Int) × List (Int × Int × Int) × List (ByteArray × Int × Int) × List (Int) × List (List (Int))) ⊕ (Unit ⊕ Bool)) := fun
  | (compat2, t51, l149, l1200, l1201, l1202, l1203, l1204, l1205, l1230, l1231) =>
  if (decide (t51 < (2 : Int))) = true then
   if ((decide ((0 : Int) ≤ t51)) && (decide (t51 < ((l149.length : Nat) : Int)))) = true then
    if (decide (t51.toNat < l149.length)) = true then
     ((Go.Sx.runLoop law08_TablesFull_b13 (compat2, ((l149.getD t51.toNat (0 : Int)), ((-1 : Int), (t51, (((l1230.length : Nat) : Int), ((0 : Int), (l149, (l1230, (l1200, (l1201, (l1202, (l1203, (l1204, (l1205, l1231)))))))))))))))).bind fun r0_0 =>
      match r0_0 with
      | .inl r1_0 =>
       some (.inr (.inr r1_0))
      | .inr (r2_0, r2_1, r2_2, r2_3, r2_4, r2_5, r2_6, r2_7, r2_8, r2_9, r2_10, r2_11, r2_12) =>
       ((Go.Tx.ref08_Tables_Line r2_1 r2_0 r2_5 r2_6 r2_7 r2_8 r2_9 r2_10)).bind fun (r3_0, r3_1, r3_2, r3_3, r3_4, r3_5, r3_6) =>
        if (!(decide ((decide (r2_2 ≥ (0 : Int))) = (decide (r3_0 ≥ (0 : Int)))))) = true then
         some (.inr (.inr false))
        else
         if (decide (r2_2 < (0 : Int))) = true then
          some (.inl (r2_0, ((Go.IntKind.wrap .i64 (r2_3 + (1 : Int))), (r2_4, (r3_1, (r3_2, (r3_3, (r3_4, (r3_5, (r3_6, (r2_11, r2_12)))))))))))
         else
          ((Go.Tx.ref08_Tables_Full r2_1 r2_0 r3_1 r3_2 r3_3 r3_4 r3_5 r3_6)).bind fun (r4_0, r4_1, r4_2, r4_3, r4_4, r4_5, r4_6) =>
           if ((decide ((0 : Int) ≤ r2_2)) && (decide (r2_2 < ((r2_12.length : Nat) : Int)))) = true then
            if (decide (r2_2.toNat < r2_12.length)) = true then
             ((Go.Sx.runLoop law08_TablesFull_b25 (r2_0, (r2_2, (r2_3, ((((r2_12.getD r2_2.toNat []).length : Nat) : Int), ((0 : Int), (r4_0, (r2_4, ((r2_12.getD r2_2.toNat []), (r4_1, (r4_2, (r4_3, (r4_4, (r4_5, (r4_6, (r2_11, r2_12))))))))))))))))).bind fun r5_0 =>
              match r5_0 with
              | .inl r6_0 =>
               some (.inr (.inr r6_0))
              | .inr (r7_0, r7_1, r7_2, r7_3, r7_4, r7_5, r7_6, r7_7, r7_8, r7_9, r7_10, r7_11, r7_12) =>
               if ((decide ((0 : Int) ≤ r7_1)) && (decide (r7_1 < ((r7_12.length : Nat) : Int)))) = true then
                if (decide (r7_1.toNat < r7_12.length)) = true then
                 if ((((r7_12.getD r7_1.toNat []).length : Nat) : Int) != (3 : Int)) = true then
                  some (.inr (.inr false))
                 else
                  if (decide (((r7_3.length : Nat) : Int) > (3 : Int))) = true then
                   some (.inr (.inr false))
                  else
                   some (.inl (r7_0, ((Go.IntKind.wrap .i64 (r7_2 + (1 : Int))), (r7_4, (r7_5, (r7_6, (r7_7, (r7_8, (r7_9, (r7_10, (r7_11, r7_12)))))))))))
                else
                 none
               else
                none
            else
             none
           else
            none
    else
     none
   else
    none
  else
   some (.inr (.inl ()))
noncomputable def law08_TablesFull (p0 : Int) (at1 : Int) (compat2 : Bool) : Option (Bool) :=
  (Go.Tx.law08_awake).bind fun r0_0 =>
   if (!r0_0) = true then
    some false
   else
    (Go.Tx.ref08_New).bind fun (r1_0, r1_1, r1_2, r1_3, r1_4, r1_5) =>
     (Go.Tx.tables_New).bind fun (r2_0, r2_1, r2_2, r2_3, r2_4, r2_5) =>
      ((Go.Tx.tables_Tables_Full compat2 r2_0 r2_1 r2_2 r2_3 r2_4 r2_5)).bind fun (r3_0, r3_1, r3_2, r3_3, r3_4, r3_5, r3_6, r3_7) =>
       if (((r3_6.length : Nat) : Int) != ((r3_7.length : Nat) : Int)) = true then
        some false
       else
        if (decide (((r3_6.length : Nat) : Int) = (0 : Int))) = true then
         some false
        else
         if (!(decide (((r3_6.length : Nat) : Int) = (0 : Int)))) = true then
          if ((decide ((0 : Int) ≤ (Int.tmod (Go.IntKind.wrap .i64 at1) ((r3_6.length : Nat) : Int)))) && (decide ((Int.tmod (Go.IntKind.wrap .i64 at1) ((r3_6.length : Nat) : Int)) < ((r3_6.length : Nat) : Int)))) = true then
           if (decide ((Int.tmod (Go.IntKind.wrap .i64 at1) ((r3_6.length : Nat) : Int)).toNat < r3_6.length)) = true then
            ((Go.Sx.runLoop law08_TablesFull_b9 (compat2, ((0 : Int), ([p0, (r3_6.getD (Int.tmod (Go.IntKind.wrap .i64 at1) ((r3_6.length : Nat) : Int)).toNat (0 : Int))], (r1_0, (r1_1, (r1_2, (r1_3, (r1_4, (r1_5, (r3_6, r3_7)))))))))))).bind fun r4_0 =>
             match r4_0 with
             | .inl _ =>
              some true
             | .inr r6_0 =>
              some r6_0
           else
            none
          else
           none
         else
          none
end Go.Tx

/- Charts of ranges, sets and of what points become, read: pure. -/
set_option linter.unusedVariables false
set_option linter.unusedSimpArgs false
set_option maxRecDepth 100000
namespace Go.Pc
open Go Go.Sx Go.Tx

def capsB : ByteArray := ⟨#[65, 66, 67, 68, 69, 70, 71, 72, 73, 74, 75, 76, 77, 78, 79, 80, 81, 82, 83, 84, 85, 86, 87, 88, 89, 90]⟩
def smallsB : ByteArray := ⟨#[97, 98, 99, 100, 101, 102, 103, 104, 105, 106, 107, 108, 109, 110, 111, 112, 113, 114, 115, 116, 117, 118, 119, 120, 121, 122]⟩
def joinsB : ByteArray := ⟨#[85, 68, 82, 76, 67, 84]⟩
def signsB : ByteArray := ⟨#[61, 33, 126]⟩
theorem lowCaps : Low capsB := by unfold Low capsB; decide
theorem lowSmalls : Low smallsB := by unfold Low smallsB; decide
theorem lowJoins : Low joinsB := by unfold Low joinsB; decide
theorem lowSigns : Low signsB := by unfold Low signsB; decide
theorem capsB_eq : (ByteArray.mk (List.toArray [(65 : UInt8), (66 : UInt8), (67 : UInt8), (68 : UInt8), (69 : UInt8), (70 : UInt8), (71 : UInt8), (72 : UInt8), (73 : UInt8), (74 : UInt8), (75 : UInt8), (76 : UInt8), (77 : UInt8), (78 : UInt8), (79 : UInt8), (80 : UInt8), (81 : UInt8), (82 : UInt8), (83 : UInt8), (84 : UInt8), (85 : UInt8), (86 : UInt8), (87 : UInt8), (88 : UInt8), (89 : UInt8), (90 : UInt8)])) = capsB := rfl
theorem smallsB_eq : (ByteArray.mk (List.toArray [(97 : UInt8), (98 : UInt8), (99 : UInt8), (100 : UInt8), (101 : UInt8), (102 : UInt8), (103 : UInt8), (104 : UInt8), (105 : UInt8), (106 : UInt8), (107 : UInt8), (108 : UInt8), (109 : UInt8), (110 : UInt8), (111 : UInt8), (112 : UInt8), (113 : UInt8), (114 : UInt8), (115 : UInt8), (116 : UInt8), (117 : UInt8), (118 : UInt8), (119 : UInt8), (120 : UInt8), (121 : UInt8), (122 : UInt8)])) = smallsB := rfl
theorem joinsB_eq : (ByteArray.mk (List.toArray [(85 : UInt8), (68 : UInt8), (82 : UInt8), (76 : UInt8), (67 : UInt8), (84 : UInt8)])) = joinsB := rfl
theorem signsB_eq : (ByteArray.mk (List.toArray [(61 : UInt8), (33 : UInt8), (126 : UInt8)])) = signsB := rfl
/-- Is a text this one? -/
def isB (s : ByteArray) (t : List UInt8) : Bool := List.beq (ByteArray.toList s) (ByteArray.toList (ByteArray.mk (List.toArray t)))
theorem isB_eq (s : ByteArray) (t : List UInt8) : List.beq (ByteArray.toList s) (ByteArray.toList (ByteArray.mk (List.toArray t))) = isB s t := rfl

theorem inn {n k : Nat} (h : n = k) (i : Nat) (hi : i < k) : decide ((i : Int) < (n : Int)) = true ∧ decide (i < n) = true := ⟨decide_eq_true (by omega), decide_eq_true (by omega)⟩

def oneNamed (w : List ByteArray) (_ : List (ByteArray × Int × Int)) : Option (ByteArray × Int × Int) := match w with
  | [a, b, c] => if (decide (1 ≤ a.size) && decide (a.size ≤ 10) && allIn capsB a) && spanOK b c then some (a, (ptN b : Int), (ptN c : Int)) else none
  | _ => none
theorem oneNamed_ne {w : List ByteArray} (l) (h : w.length ≠ 3) : oneNamed w l = none := by
  unfold oneNamed
  split
  · simp at h
  · rfl
theorem Sets1_is (w : List ByteArray) (l : List (ByteArray × Int × Int)) (hw : ∀ x ∈ w, x.size ≤ 1000000) (hl : l.length ≤ 1000000) :
    ∃ a b n, chart_Sets_1 w l = some ((oneNamed w l).isSome, a, b, n, w, l) ∧ ∀ x, oneNamed w l = some x → x = (a, b, n) := by
  by_cases h3 : w.length = 3
  · obtain ⟨a, b, c, rfl⟩ := three h3
    have ha := hw a (by simp)
    have hb := hw b (by simp)
    have hc := hw c (by simp)
    unfold chart_Sets_1
    rw [capsB_eq]
    have g0 : [a, b, c].getD 0 ByteArray.empty = a := rfl
    have g1 : [a, b, c].getD 1 ByteArray.empty = b := rfl
    have g2 : [a, b, c].getD 2 ByteArray.empty = c := rfl
    have e0 : ((([a, b, c].length : Nat) : Int) != 3) = false := rfl
    have e1 : decide ((0 : Int) < (([a, b, c].length : Nat) : Int)) = true := rfl
    have e2 : decide (0 < [a, b, c].length) = true := rfl
    have e3 : decide ((1 : Int) < (([a, b, c].length : Nat) : Int)) = true := rfl
    have e4 : decide (1 < [a, b, c].length) = true := rfl
    have e5 : decide ((2 : Int) < (([a, b, c].length : Nat) : Int)) = true := rfl
    have e6 : decide (2 < [a, b, c].length) = true := rfl
    simp only [Bool.not_true, Bool.false_eq_true, if_false, e0, e1, e2, e3, e4, e5, e6, if_true, g0, g1, g2, made_is a capsB 1 10 lowCaps (by omega), span_is b c (by omega) (by omega), Option.bind_some]
    have q1 : decide ((1 : Int) ≤ (a.size : Int)) = decide (1 ≤ a.size) := le_cast1 1 _
    have q2 : decide ((a.size : Int) ≤ 10) = decide (a.size ≤ 10) := le_cast1 _ 10
    rw [q1, q2]
    cases hM : (decide (1 ≤ a.size) && decide (a.size ≤ 10) && allIn capsB a)
    · have ho : oneNamed [a, b, c] l = none := by simp only [oneNamed, hM, Bool.false_and, Bool.false_eq_true, if_false]
      rw [ho]
      exact ⟨_, _, _, rfl, fun x h => by cases h⟩
    · cases hS : spanOK b c
      · have ho : oneNamed [a, b, c] l = none := by simp only [oneNamed, hM, hS, Bool.and_false, Bool.false_eq_true, if_false]
        rw [ho]
        exact ⟨_, _, _, rfl, fun x h => by cases h⟩
      · have ho : oneNamed [a, b, c] l = some (a, (ptN b : Int), (ptN c : Int)) := by simp only [oneNamed, hM, hS, Bool.and_self, if_true]
        rw [ho]
        exact ⟨_, _, _, rfl, fun x h => by cases h; rfl⟩
  · have e0 : (((w.length : Nat) : Int) != 3) = true := by simp; omega
    unfold chart_Sets_1
    rw [oneNamed_ne l h3]
    simp only [e0, if_true]
    exact ⟨_, _, _, rfl, fun x h => by cases h⟩

/-! what points become -/
def ptsOK : List ByteArray → Bool := fun l => l.all ptOK
theorem points_go (L : List ByteArray) (hL : L.length ≤ 1000000) (hw : ∀ x ∈ L, x.size ≤ 1000000) : ∀ (n i : Nat) (acc : List Int), n + i = L.length → acc.length = i →
    runLoop chart_points_b3 ((L.length : Int), (i : Int), L, acc) = some (if ptsOK (L.drop i) then .inr (L, acc ++ (L.drop i).map (fun x => (ptN x : Int))) else .inl (false, L)) := by
  intro n
  induction n with
  | zero =>
    intro i acc h1 h2
    have : i = L.length := by omega
    subst this
    have d0 : decide ((L.length : Int) < (L.length : Int)) = false := decide_eq_false (by omega)
    rw [runLoop_done (x := .inr (L, acc)) (by simp only [chart_points_b3, d0, Bool.false_eq_true, if_false]), List.drop_length]
    simp [ptsOK]
  | succ n ih =>
    intro i acc h1 h2
    have hi : i < L.length := by omega
    have d0 : decide ((i : Int) < (L.length : Int)) = true := decide_eq_true (by omega)
    have d1 : decide ((0 : Int) ≤ (i : Int)) = true := decide_eq_true (by omega)
    have d2 : decide (i < L.length) = true := decide_eq_true hi
    have hg : L.getD i ByteArray.empty = L[i] := by rw [List.getD_eq_getElem?_getD, List.getElem?_eq_getElem hi]; rfl
    have hwr : IntKind.i64.wrap ((i : Int) + 1) = ((i + 1 : Nat) : Int) := by rw [wrap_i64] <;> omega
    have hm : L[i] ∈ L := List.getElem_mem hi
    have hp := point_is L[i] (by have := hw _ hm; omega)
    rw [List.drop_eq_getElem_cons hi]
    cases ho : ptOK L[i]
    · rw [runLoop_done (x := .inl (false, L)) (by simp only [chart_points_b3, d0, d1, d2, if_true, Bool.and_self, Int.toNat_natCast, hg, hp, Option.bind_some, ho, Bool.not_false])]
      have e : ptsOK (L[i] :: L.drop (i + 1)) = false := by
        show (ptOK L[i] && _) = false
        rw [ho]; rfl
      rw [e]; rfl
    · have hlen : decide ((acc.length + [(ptN L[i] : Int)].length) * 4 ≤ 140737488355328) = true := decide_eq_true (by simp; omega)
      rw [runLoop_step (v' := ((L.length : Int), ((i + 1 : Nat) : Int), L, acc ++ [(ptN L[i] : Int)])) (by simp only [chart_points_b3, d0, d1, d2, if_true, Bool.and_self, Int.toNat_natCast, hg, hp, Option.bind_some, ho, Bool.not_true, Bool.false_eq_true, if_false, hlen, hwr])]
      rw [ih (i + 1) (acc ++ [(ptN L[i] : Int)]) (by omega) (by simp [h2])]
      have e : ptsOK (L[i] :: L.drop (i + 1)) = ptsOK (L.drop (i + 1)) := by
        show (ptOK L[i] && ptsOK _) = _
        rw [ho, Bool.true_and]
      rw [e, List.map_cons, List.append_assoc]; rfl
theorem points_is (L : List ByteArray) (hL : L.length ≤ 1000000) (hw : ∀ x ∈ L, x.size ≤ 1000000) :
    ∃ r, chart_points L = some (ptsOK L && decide (0 < L.length) && decide (L.length ≤ 3), L, r) ∧ (ptsOK L = true → r = L.map (fun x => (ptN x : Int))) := by
  have h := points_go L hL hw L.length 0 [] (by omega) rfl
  rw [show ((0 : Nat) : Int) = 0 from rfl, List.drop_zero, List.nil_append] at h
  unfold chart_points
  rw [h]
  simp only [Option.bind_some]
  cases hp : ptsOK L
  · exact ⟨[], rfl, fun h => by cases h⟩
  · refine ⟨L.map (fun x => (ptN x : Int)), ?_, fun _ => rfl⟩
    simp only [if_true]
    by_cases h0 : 0 < L.length
    · have d0 : decide ((L.length : Int) > 0) = true := decide_eq_true (by omega)
      have q2 : decide ((L.length : Int) ≤ 3) = decide (L.length ≤ 3) := le_cast1 _ 3
      simp [d0, q2, h0]
    · have d0 : decide ((L.length : Int) > 0) = false := decide_eq_false (by omega)
      simp [d0, h0]

def aheadI (e : Option Int) (f : Int) : Bool := match e with
  | none => true
  | some x => !decide (x ≥ f)
def oneDecomp (w : List ByteArray) (l : List (Int × List Int × Bool × Bool)) : Option (Int × List Int × Bool × Bool) := match w with
  | a :: b :: c :: r => if (decide (1 ≤ b.size) && decide (b.size ≤ 1) && allIn signsB b) && ptOK a && (ptsOK (c :: r) && decide ((c :: r).length ≤ 3)) && aheadI (l.getLast?.map (fun e => e.1)) (ptN a) then
      some ((ptN a : Int), (c :: r).map (fun x => (ptN x : Int)), isB b [126], isB b [33]) else none
  | _ => none
theorem oneDecomp_ne {w : List ByteArray} (l) (h : w.length < 3) : oneDecomp w l = none := by
  unfold oneDecomp
  split
  · simp at h; omega
  · rfl
theorem more3 {w : List ByteArray} (h : ¬ w.length < 3) : ∃ a b c r, w = a :: b :: c :: r := by
  match w, h with
  | [], h => simp at h
  | [_], h => simp at h
  | [_, _], h => simp at h
  | a :: b :: c :: r, _ => exact ⟨a, b, c, r, rfl⟩
theorem Decomps1_is (w : List ByteArray) (l : List (Int × List Int × Bool × Bool)) (hw : ∀ x ∈ w, x.size ≤ 1000000) (hwl : w.length ≤ 1000001) (hl : l.length ≤ 1000000) :
    ∃ n x y r, chart_Decomps_1 w l = some ((oneDecomp w l).isSome, n, x, y, w, l, r) ∧ ∀ z, oneDecomp w l = some z → z = (n, r, x, y) := by
  by_cases h3 : w.length < 3
  · have e0 : decide (((w.length : Nat) : Int) < 3) = true := decide_eq_true (by omega)
    unfold chart_Decomps_1
    rw [oneDecomp_ne l h3]
    simp only [e0, if_true]
    exact ⟨_, _, _, _, rfl, fun x h => by cases h⟩
  · obtain ⟨a, b, c, r, rfl⟩ := more3 h3
    have ha := hw a (by simp)
    have hb := hw b (by simp)
    obtain ⟨q, hq, hq'⟩ := points_is (c :: r) (by simp at hwl ⊢; omega) (fun x hx => hw x (by simp at hx ⊢; exact .inr (.inr hx)))
    unfold chart_Decomps_1
    rw [signsB_eq]
    generalize hN : (a :: b :: c :: r).length = N at *
    have hN3 : 3 ≤ N := by omega
    have g0 : (a :: b :: c :: r).getD 0 ByteArray.empty = a := rfl
    have g1 : (a :: b :: c :: r).getD 1 ByteArray.empty = b := rfl
    have gd : List.drop 2 (List.take ((N : Nat) : Int).toNat (a :: b :: c :: r)) = c :: r := by rw [Int.toNat_natCast, ← hN, List.take_length]; rfl
    have e0 : decide (((N : Nat) : Int) < 3) = false := decide_eq_false (by omega)
    have e1 : decide ((0 : Int) < ((N : Nat) : Int)) = true := decide_eq_true (by omega)
    have e2 : decide (0 < N) = true := decide_eq_true (by omega)
    have e3 : decide ((1 : Int) < ((N : Nat) : Int)) = true := decide_eq_true (by omega)
    have e4 : decide (1 < N) = true := decide_eq_true (by omega)
    have e5 : decide ((2 : Int) ≤ ((N : Nat) : Int)) = true := decide_eq_true (by omega)
    have e6 : decide (((N : Nat) : Int) ≤ ((N : Nat) : Int)) = true := decide_eq_true (by omega)
    simp only [Bool.false_eq_true, if_false, e0, e1, e2, e3, e4, e5, e6, if_true, Bool.and_self, g0, g1, gd, hq, isB_eq, made_is b signsB 1 1 lowSigns (by omega), point_is a (by omega), Option.bind_some]
    have q1 : decide ((1 : Int) ≤ (b.size : Int)) = decide (1 ≤ b.size) := le_cast1 1 _
    have q2 : decide ((b.size : Int) ≤ 1) = decide (b.size ≤ 1) := le_cast1 _ 1
    have q3 : decide (0 < (c :: r).length) = true := decide_eq_true (by simp)
    rw [q1, q2, q3, Bool.and_true]
    cases hM : (decide (1 ≤ b.size) && decide (b.size ≤ 1) && allIn signsB b)
    · have ho : oneDecomp (a :: b :: c :: r) l = none := by simp only [oneDecomp, hM, Bool.false_and, Bool.false_eq_true, if_false]
      rw [ho]
      exact ⟨_, _, _, _, rfl, fun x h => by cases h⟩
    · cases hA : ptOK a
      · have ho : oneDecomp (a :: b :: c :: r) l = none := by simp only [oneDecomp, hA, Bool.false_and, Bool.and_false, Bool.false_eq_true, if_false]
        rw [ho]
        exact ⟨_, _, _, _, rfl, fun x h => by cases h⟩
      · cases hP : (ptsOK (c :: r) && decide ((c :: r).length ≤ 3))
        · have ho : oneDecomp (a :: b :: c :: r) l = none := by simp only [oneDecomp, hP, Bool.false_and, Bool.and_false, Bool.false_eq_true, if_false]
          rw [ho]
          exact ⟨_, _, _, _, rfl, fun x h => by cases h⟩
        · have hq2 := hq' (by simp only [Bool.and_eq_true] at hP; exact hP.1)
          rcases last_cases l with rfl | ⟨i, e, rfl⟩
          · have ho : oneDecomp (a :: b :: c :: r) [] = some ((ptN a : Int), (c :: r).map (fun x => (ptN x : Int)), isB b [126], isB b [33]) := by simp only [oneDecomp, hM, hA, hP, Bool.and_self, List.getLast?_nil, Option.map_none, aheadI, if_true]
            rw [ho]
            exact ⟨_, _, _, _, rfl, fun x h => by cases h; rw [hq2]⟩
          · have hl' : (i ++ [e]).length = i.length + 1 := by simp
            have hwp : IntKind.i64.wrap ((((i ++ [e]).length : Nat) : Int) - 1) = (i.length : Int) := by rw [hl'] at hl ⊢; rw [wrap_i64] <;> omega
            have h0 : decide ((((i ++ [e]).length : Nat) : Int) > 0) = true := decide_eq_true (by rw [hl']; omega)
            have h1 : decide ((0 : Int) ≤ (i.length : Int)) = true := decide_eq_true (by omega)
            have h2 : decide ((i.length : Int) < (((i ++ [e]).length : Nat) : Int)) = true := decide_eq_true (by rw [hl']; omega)
            have h3 : decide (i.length < (i ++ [e]).length) = true := decide_eq_true (by rw [hl']; omega)
            simp only [Bool.not_true, Bool.false_eq_true, if_false, h0, if_true, hwp, h1, h2, Bool.and_self, Int.toNat_natCast, h3, getD_lst]
            cases hE : decide (e.1 ≥ (ptN a : Int))
            · have ho : oneDecomp (a :: b :: c :: r) (i ++ [e]) = some ((ptN a : Int), (c :: r).map (fun x => (ptN x : Int)), isB b [126], isB b [33]) := by simp only [oneDecomp, hM, hA, hP, Bool.and_self, List.getLast?_concat, Option.map_some, aheadI, hE, Bool.not_false, if_true]
              rw [ho]
              exact ⟨_, _, _, _, rfl, fun x h => by cases h; rw [hq2]⟩
            · have ho : oneDecomp (a :: b :: c :: r) (i ++ [e]) = none := by simp only [oneDecomp, List.getLast?_concat, Option.map_some, aheadI, hE, Bool.not_true, Bool.and_false, Bool.false_eq_true, if_false]
              rw [ho]
              exact ⟨_, _, _, _, rfl, fun x h => by cases h⟩

/-! ranges -/
def catOK (c : ByteArray) : Bool := decide (c.size = 2) && allIn capsB (c.extract 0 1) && allIn smallsB (c.extract 1 c.size)
def newOK (f : ByteArray) : Bool := isB f [111, 108, 100] || isB f [110, 101, 119]
def oneRange (w : List ByteArray) (l : List (Int × Int × ByteArray × ByteArray × ByteArray × Bool)) : Option (Int × Int × ByteArray × ByteArray × ByteArray × Bool) := match w with
  | [a, b, c, d, e, f] => if (spanOK a b && behindI (l.getLast?.map (fun e => e.2.1)) (ptN a)) && catOK c && (decide (1 ≤ d.size) && decide (d.size ≤ 3) && allIn capsB d) && (decide (1 ≤ e.size) && decide (e.size ≤ 1) && allIn joinsB e) && newOK f then
      some ((ptN a : Int), (ptN b : Int), c, d, e, isB f [110, 101, 119]) else none
  | _ => none
theorem six {w : List ByteArray} (h : w.length = 6) : ∃ a b c d e f, w = [a, b, c, d, e, f] := by
  match w, h with
  | [a, b, c, d, e, f], _ => exact ⟨a, b, c, d, e, f, rfl⟩
theorem oneRange_ne {w : List ByteArray} (l) (h : w.length ≠ 6) : oneRange w l = none := by
  unfold oneRange
  split
  · simp at h
  · rfl
set_option maxHeartbeats 2000000 in
theorem Ranges1_is (w : List ByteArray) (l : List (Int × Int × ByteArray × ByteArray × ByteArray × Bool)) (hw : ∀ x ∈ w, x.size ≤ 1000000) (hl : l.length ≤ 1000000) :
    ∃ p q x y z n, chart_Ranges_1 w l = some ((oneRange w l).isSome, p, q, x, y, z, n, w, l) ∧ ∀ v, oneRange w l = some v → v = (p, q, x, y, z, n) := by
  by_cases h6 : w.length = 6
  · obtain ⟨a, b, c, d, e, f, rfl⟩ := six h6
    have ha := hw a (by simp)
    have hb := hw b (by simp)
    have hc := hw c (by simp)
    have hd := hw d (by simp)
    have he := hw e (by simp)
    unfold chart_Ranges_1
    rw [spannedRange_eq 6 a b [c, d, e, f] l (by rfl) ha hb hl, capsB_eq, smallsB_eq, joinsB_eq]
    simp only [Option.bind_some]
    generalize hW : [a, b, c, d, e, f] = W at *
    have g2 : W.getD 2 ByteArray.empty = c := by rw [← hW]; rfl
    have g3 : W.getD 3 ByteArray.empty = d := by rw [← hW]; rfl
    have g4 : W.getD 4 ByteArray.empty = e := by rw [← hW]; rfl
    have g5 : W.getD 5 ByteArray.empty = f := by rw [← hW]; rfl
    have e1 : decide ((2 : Int) < ((W.length : Nat) : Int)) = true := decide_eq_true (by omega)
    have e2 : decide (2 < W.length) = true := decide_eq_true (by omega)
    have e3 : decide ((3 : Int) < ((W.length : Nat) : Int)) = true := decide_eq_true (by omega)
    have e4 : decide (3 < W.length) = true := decide_eq_true (by omega)
    have e5 : decide ((4 : Int) < ((W.length : Nat) : Int)) = true := decide_eq_true (by omega)
    have e6 : decide (4 < W.length) = true := decide_eq_true (by omega)
    have e7 : decide ((5 : Int) < ((W.length : Nat) : Int)) = true := decide_eq_true (by omega)
    have e8 : decide (5 < W.length) = true := decide_eq_true (by omega)
    have hOne : oneRange W l = if (spanOK a b && behindI (l.getLast?.map (fun e => e.2.1)) (ptN a)) && catOK c && (decide (1 ≤ d.size) && decide (d.size ≤ 3) && allIn capsB d) && (decide (1 ≤ e.size) && decide (e.size ≤ 1) && allIn joinsB e) && newOK f then some ((ptN a : Int), (ptN b : Int), c, d, e, isB f [110, 101, 119]) else none := by rw [← hW]; rfl
    simp only [e1, e2, e3, e4, e5, e6, e7, e8, if_true, g2, g3, g4, g5, isB_eq]
    cases hS : (spanOK a b && behindI (l.getLast?.map (fun e => e.2.1)) (ptN a))
    · have ho : oneRange W l = none := by rw [hOne]; simp only [hS, Bool.false_and, Bool.false_eq_true, if_false]
      rw [ho]
      exact ⟨_, _, _, _, _, _, rfl, fun x h => by cases h⟩
    · by_cases hc2 : c.size = 2
      · have c0 : ((((c.size : Nat) : Int)) != 2) = false := by rw [hc2]; rfl
        have c1 : decide ((1 : Int) ≤ ((c.size : Nat) : Int)) = true := decide_eq_true (by omega)
        have s1 : (c.extract 0 1).size = 1 := by rw [ByteArray.size_extract]; omega
        have s2 : (c.extract 1 c.size).size = 1 := by rw [ByteArray.size_extract]; omega
        have o1 : (decide ((1 : Int) ≤ ((1 : Nat) : Int)) && decide (((1 : Nat) : Int) ≤ (1 : Int))) = true := rfl
        simp only [Bool.not_true, Bool.false_eq_true, if_false, c0, c1, if_true, made_is (c.extract 0 1) capsB 1 1 lowCaps (by omega), made_is (c.extract 1 c.size) smallsB 1 1 lowSmalls (by omega), s1, s2, o1, Bool.true_and, Option.bind_some]
        cases hx1 : allIn capsB (c.extract 0 1)
        · have ho : oneRange W l = none := by rw [hOne]; simp only [catOK, hx1, Bool.false_and, Bool.and_false, Bool.false_eq_true, if_false]
          rw [ho]
          exact ⟨_, _, _, _, _, _, rfl, fun x h => by cases h⟩
        · cases hx2 : allIn smallsB (c.extract 1 c.size)
          · have ho : oneRange W l = none := by rw [hOne]; simp only [catOK, hx2, Bool.false_and, Bool.and_false, Bool.false_eq_true, if_false]
            rw [ho]
            exact ⟨_, _, _, _, _, _, rfl, fun x h => by cases h⟩
          · have hcat : catOK c = true := by simp only [catOK, hx1, hx2, decide_eq_true hc2, Bool.and_self]
            simp only [Bool.not_true, Bool.false_eq_true, if_false, made_is d capsB 1 3 lowCaps (by omega), made_is e joinsB 1 1 lowJoins (by omega), Option.bind_some]
            rw [show decide ((1 : Int) ≤ (d.size : Int)) = decide (1 ≤ d.size) from le_cast1 1 _, show decide ((d.size : Int) ≤ 3) = decide (d.size ≤ 3) from le_cast1 _ 3, show decide ((1 : Int) ≤ (e.size : Int)) = decide (1 ≤ e.size) from le_cast1 1 _, show decide ((e.size : Int) ≤ 1) = decide (e.size ≤ 1) from le_cast1 _ 1]
            cases hD : (decide (1 ≤ d.size) && decide (d.size ≤ 3) && allIn capsB d)
            · have ho : oneRange W l = none := by rw [hOne]; simp only [hD, Bool.false_and, Bool.and_false, Bool.false_eq_true, if_false]
              rw [ho]
              exact ⟨_, _, _, _, _, _, rfl, fun x h => by cases h⟩
            · cases hE : (decide (1 ≤ e.size) && decide (e.size ≤ 1) && allIn joinsB e)
              · have ho : oneRange W l = none := by rw [hOne]; simp only [hE, Bool.false_and, Bool.and_false, Bool.false_eq_true, if_false]
                rw [ho]
                exact ⟨_, _, _, _, _, _, rfl, fun x h => by cases h⟩
              · cases hF1 : isB f [111, 108, 100]
                · cases hF2 : isB f [110, 101, 119]
                  · have ho : oneRange W l = none := by rw [hOne]; simp only [newOK, hF1, hF2, Bool.or_self, Bool.and_false, Bool.false_eq_true, if_false]
                    rw [ho]
                    exact ⟨_, _, _, _, _, _, rfl, fun x h => by cases h⟩
                  · have ho : oneRange W l = some ((ptN a : Int), (ptN b : Int), c, d, e, isB f [110, 101, 119]) := by rw [hOne]; simp only [hS, hcat, hD, hE, newOK, hF1, hF2, Bool.or_true, Bool.and_self, if_true]
                    rw [ho, hF2]
                    exact ⟨_, _, _, _, _, _, rfl, fun x h => by cases h; rfl⟩
                · have ho : oneRange W l = some ((ptN a : Int), (ptN b : Int), c, d, e, isB f [110, 101, 119]) := by rw [hOne]; simp only [hS, hcat, hD, hE, newOK, hF1, Bool.true_or, Bool.and_self, if_true]
                  rw [ho]
                  exact ⟨_, _, _, _, _, _, rfl, fun x h => by cases h; rfl⟩
      · have c0 : ((((c.size : Nat) : Int)) != 2) = true := by simp; omega
        have ho : oneRange W l = none := by rw [hOne]; simp only [catOK, decide_eq_false hc2, Bool.false_and, Bool.and_false, Bool.false_eq_true, if_false]
        rw [ho]
        simp only [Bool.not_true, Bool.false_eq_true, if_false, c0, if_true]
        exact ⟨_, _, _, _, _, _, rfl, fun x h => by cases h⟩
  · unfold chart_Ranges_1
    rw [spannedRange_ne 6 w l (by omega), oneRange_ne l h6]
    exact ⟨_, _, _, _, _, _, rfl, fun x h => by cases h⟩

theorem readNamed_is (s : ByteArray) (hs : s.size ≤ 1000000) : chart_read_Named s = some (resR (readR oneNamed (linesOf s) [] 0)) := by
  unfold chart_read_Named linesOf
  rw [beq_nil]
  by_cases h0 : s.size = 0
  · simp [h0, readR, resR]
  · rw [if_neg (by simpa using h0), if_neg h0, split_is 10 s (by omega)]
    simp only [Option.bind_some]
    have hL : (spB 10 s).length ≤ 1000001 := by have := spB_len 10 s; omega
    have hW : ∀ w ∈ spB 10 s, w.size ≤ 1000000 := fun w h => by have := spB_word 10 s w h; omega
    have hn : (spB 10 s).length ≤ s.size + 1 := spB_len 10 s
    generalize spB 10 s = L at *
    have key := read_go chart_read_Named_b5 oneNamed L (fun acc => by simp [chart_read_Named_b5]) ?_ L.length 0 [] (by omega) rfl
    · rw [show ((0 : Nat) : Int) = 0 from rfl, List.drop_zero] at key
      rw [key]
      simp only [Option.bind_some]
      cases readR oneNamed (L.map (spB 32)) [] 0 <;> rfl
    · intro i acc w hw ha hi
      have hm : w ∈ L := List.mem_of_getElem? hw
      have hws := hW w hm
      have d0 : decide ((i : Int) < (L.length : Int)) = true := decide_eq_true (by omega)
      have d1 : decide ((0 : Int) ≤ (i : Int)) = true := decide_eq_true (by omega)
      have d2 : decide (i < L.length) = true := decide_eq_true hi
      have hg : L.getD i ByteArray.empty = w := by rw [List.getD_eq_getElem?_getD, hw]; rfl
      have hwr : IntKind.i64.wrap ((i : Int) + 1) = ((i + 1 : Nat) : Int) := by rw [wrap_i64] <;> omega
      have hsp := split_is 32 w (by omega)
      have hww : ∀ x ∈ spB 32 w, x.size ≤ 1000000 := fun x h => by have := spB_word 32 w x h; omega
      obtain ⟨a, b, n, hc, hx⟩ := Sets1_is (spB 32 w) acc hww (by omega)
      simp only [chart_read_Named_b5, d0, d1, d2, if_true, Bool.and_self, Int.toNat_natCast, hg, hsp, Option.bind_some, hc, hwr]
      cases ho : oneNamed (spB 32 w) acc with
      | none => simp
      | some x =>
        have := hx x ho
        subst this
        simp
        omega
theorem Sets_is (s : ByteArray) (hs : s.size ≤ 1000000) : chart_Sets s = some (resR (readR oneNamed (linesOf s) [] 0)) := by
  unfold chart_Sets
  rw [readNamed_is s hs]; rfl

theorem readRange_is (s : ByteArray) (hs : s.size ≤ 1000000) : chart_read_Range s = some (resR (readR oneRange (linesOf s) [] 0)) := by
  unfold chart_read_Range linesOf
  rw [beq_nil]
  by_cases h0 : s.size = 0
  · simp [h0, readR, resR]
  · rw [if_neg (by simpa using h0), if_neg h0, split_is 10 s (by omega)]
    simp only [Option.bind_some]
    have hL : (spB 10 s).length ≤ 1000001 := by have := spB_len 10 s; omega
    have hW : ∀ w ∈ spB 10 s, w.size ≤ 1000000 := fun w h => by have := spB_word 10 s w h; omega
    have hn : (spB 10 s).length ≤ s.size + 1 := spB_len 10 s
    generalize spB 10 s = L at *
    have key := read_go chart_read_Range_b5 oneRange L (fun acc => by simp [chart_read_Range_b5]) ?_ L.length 0 [] (by omega) rfl
    · rw [show ((0 : Nat) : Int) = 0 from rfl, List.drop_zero] at key
      rw [key]
      simp only [Option.bind_some]
      cases readR oneRange (L.map (spB 32)) [] 0 <;> rfl
    · intro i acc w hw ha hi
      have hm : w ∈ L := List.mem_of_getElem? hw
      have hws := hW w hm
      have d0 : decide ((i : Int) < (L.length : Int)) = true := decide_eq_true (by omega)
      have d1 : decide ((0 : Int) ≤ (i : Int)) = true := decide_eq_true (by omega)
      have d2 : decide (i < L.length) = true := decide_eq_true hi
      have hg : L.getD i ByteArray.empty = w := by rw [List.getD_eq_getElem?_getD, hw]; rfl
      have hwr : IntKind.i64.wrap ((i : Int) + 1) = ((i + 1 : Nat) : Int) := by rw [wrap_i64] <;> omega
      have hsp := split_is 32 w (by omega)
      have hww : ∀ x ∈ spB 32 w, x.size ≤ 1000000 := fun x h => by have := spB_word 32 w x h; omega
      obtain ⟨p, q, x, y, z, n, hc, hx⟩ := Ranges1_is (spB 32 w) acc hww (by omega)
      simp only [chart_read_Range_b5, d0, d1, d2, if_true, Bool.and_self, Int.toNat_natCast, hg, hsp, Option.bind_some, hc, hwr]
      cases ho : oneRange (spB 32 w) acc with
      | none => simp
      | some x =>
        have := hx x ho
        subst this
        simp
        omega
theorem Ranges_is (s : ByteArray) (hs : s.size ≤ 1000000) : chart_Ranges s = some (resR (readR oneRange (linesOf s) [] 0)) := by
  unfold chart_Ranges
  rw [readRange_is s hs]; rfl

theorem readDecomp_is (s : ByteArray) (hs : s.size ≤ 1000000) : chart_read_Decomp s = some (resR (readR oneDecomp (linesOf s) [] 0)) := by
  unfold chart_read_Decomp linesOf
  rw [beq_nil]
  by_cases h0 : s.size = 0
  · simp [h0, readR, resR]
  · rw [if_neg (by simpa using h0), if_neg h0, split_is 10 s (by omega)]
    simp only [Option.bind_some]
    have hL : (spB 10 s).length ≤ 1000001 := by have := spB_len 10 s; omega
    have hW : ∀ w ∈ spB 10 s, w.size ≤ 1000000 := fun w h => by have := spB_word 10 s w h; omega
    have hn : (spB 10 s).length ≤ s.size + 1 := spB_len 10 s
    generalize spB 10 s = L at *
    have key := read_go chart_read_Decomp_b5 oneDecomp L (fun acc => by simp [chart_read_Decomp_b5]) ?_ L.length 0 [] (by omega) rfl
    · rw [show ((0 : Nat) : Int) = 0 from rfl, List.drop_zero] at key
      rw [key]
      simp only [Option.bind_some]
      cases readR oneDecomp (L.map (spB 32)) [] 0 <;> rfl
    · intro i acc w hw ha hi
      have hm : w ∈ L := List.mem_of_getElem? hw
      have hws := hW w hm
      have d0 : decide ((i : Int) < (L.length : Int)) = true := decide_eq_true (by omega)
      have d1 : decide ((0 : Int) ≤ (i : Int)) = true := decide_eq_true (by omega)
      have d2 : decide (i < L.length) = true := decide_eq_true hi
      have hg : L.getD i ByteArray.empty = w := by rw [List.getD_eq_getElem?_getD, hw]; rfl
      have hwr : IntKind.i64.wrap ((i : Int) + 1) = ((i + 1 : Nat) : Int) := by rw [wrap_i64] <;> omega
      have hsp := split_is 32 w (by omega)
      have hww : ∀ x ∈ spB 32 w, x.size ≤ 1000000 := fun x h => by have := spB_word 32 w x h; omega
      obtain ⟨n, x, y, r, hc, hx⟩ := Decomps1_is (spB 32 w) acc hww (by have := spB_len 32 w; omega) (by omega)
      simp only [chart_read_Decomp_b5, d0, d1, d2, if_true, Bool.and_self, Int.toNat_natCast, hg, hsp, Option.bind_some, hc, hwr]
      cases ho : oneDecomp (spB 32 w) acc with
      | none => simp
      | some x =>
        have := hx x ho
        subst this
        simp
        omega
theorem Decomps_is (s : ByteArray) (hs : s.size ≤ 1000000) : chart_Decomps s = some (resR (readR oneDecomp (linesOf s) [] 0)) := by
  unfold chart_Decomps
  rw [readDecomp_is s hs]; rfl
end Go.Pc

/- A text at a byte, sign by sign: pure. -/
set_option linter.unusedVariables false
set_option linter.unusedSimpArgs false
namespace Go.Pc
open Go Go.Sx Go.Tx

theorem spl_snoc_eq (c : UInt8) : ∀ l : List UInt8, spl c (l ++ [c]) = spl c l ++ [[]]
  | [] => by simp [spl]
  | x :: r => by
    have ih := spl_snoc_eq c r
    rw [List.cons_append]
    by_cases h : x = c
    · rw [spl, if_pos h, ih, spl, if_pos h, List.cons_append]
    · rw [spl, if_neg h, ih, spl, if_neg h]
      have := spl_ne c r
      cases hq : spl c r with
      | nil => exact absurd hq this
      | cons w ws => rfl
theorem spl_snoc_ne (c b : UInt8) (hb : b ≠ c) : ∀ l : List UInt8, spl c (l ++ [b]) = (spl c l).set ((spl c l).length - 1) ((spl c l).getD ((spl c l).length - 1) [] ++ [b])
  | [] => by simp [spl, hb]
  | x :: r => by
    have ih := spl_snoc_ne c b hb r
    have hne := spl_ne c r
    rw [List.cons_append]
    by_cases h : x = c
    · rw [spl, if_pos h, ih, spl, if_pos h]
      cases hq : spl c r with
      | nil => exact absurd hq hne
      | cons w ws => simp [List.getD]
    · rw [spl, if_neg h, ih, spl, if_neg h]
      cases hq : spl c r with
      | nil => exact absurd hq hne
      | cons w ws =>
        cases ws with
        | nil => simp
        | cons v vs => simp [List.getD]
def mkB (l : List UInt8) : ByteArray := ⟨l.toArray⟩
theorem spB_mk (c : UInt8) (s : ByteArray) : spB c s = (spl c s.data.toList).map mkB := rfl
theorem mkB_app (s : ByteArray) (w : List UInt8) (i : Nat) (b : UInt8) (h : s.data.toList[i]? = some b) : mkB w ++ s.extract i (i + 1) = mkB (w ++ [b]) := by
  rw [ByteArray.ext_iff]
  apply Array.toList_inj.1
  have hd : ((s.extract i (i + 1)).data).toList = [b] := by
    rw [ByteArray.data_extract, Array.toList_extract, List.extract_eq_take_drop]
    have hi : i < s.data.toList.length := (List.getElem?_eq_some_iff.1 h).1
    rw [List.drop_eq_getElem_cons hi]
    have : s.data.toList[i] = b := (List.getElem?_eq_some_iff.1 h).2
    rw [this]
    simp
  rw [ByteArray.data_append, Array.toList_append, hd]
  simp [mkB]
end Go.Pc

/- The document's reading of a chart, sign by sign: pure. -/
set_option linter.unusedVariables false
set_option linter.unusedSimpArgs false
set_option maxRecDepth 100000
namespace Go.Pc
open Go Go.Sx Go.Tx

theorem getD_at (L : List UInt8) (i : Nat) (b : UInt8) (h : L[i]? = some b) : L.getD i 0 = b := by
  rw [List.getD_eq_getElem?_getD, h]; rfl
theorem u8_eq_iff (b c : UInt8) : ((b.toNat : Int) = (c.toNat : Int)) ↔ b = c :=
  ⟨fun h => UInt8.toNat_inj.1 (by omega), fun h => by rw [h]⟩

theorem rsplit_loop (c : UInt8) (s : ByteArray) (hs : s.size ≤ 1000001) : runLoop ref07_Split_b3 (s, (c.toNat : Int), 0, [ByteArray.mk (List.toArray [])]) = some (spB c s) := by
  have hsz : s.data.toList.length = s.size := Array.length_toList
  refine runLoop_to (fun i : Nat => i ≤ s.size) (fun i : Nat => (s, (c.toNat : Int), (i : Int), (spl c (s.data.toList.take i)).map mkB)) (fun i => s.size - i) _ ?_ 0 (Nat.zero_le _)
  intro i hi
  by_cases hlt : i < s.size
  · left
    refine ⟨i + 1, ?_, hlt, by omega⟩
    obtain ⟨b, hb⟩ : ∃ b, s.data.toList[i]? = some b := ⟨_, List.getElem?_eq_getElem (by omega)⟩
    have d0 : decide ((i : Int) < (s.size : Int)) = true := decide_eq_true (by omega)
    have d1 : decide ((0 : Int) ≤ (i : Int)) = true := decide_eq_true (by omega)
    have hg := getD_at _ i b hb
    have hw : IntKind.i64.wrap ((i : Int) + 1) = ((i + 1 : Nat) : Int) := by rw [wrap_i64] <;> omega
    have ht : s.data.toList.take (i + 1) = s.data.toList.take i ++ [b] := by rw [List.take_add_one, hb]; rfl
    have hlen := spl_len c (s.data.toList.take i)
    have htl : (s.data.toList.take i).length ≤ i := by rw [List.length_take]; omega
    have hne : 0 < (spl c (s.data.toList.take i)).length := List.length_pos_iff.2 (spl_ne c _)
    have hml : ((spl c (s.data.toList.take i)).map mkB).length = (spl c (s.data.toList.take i)).length := List.length_map _
    have hwords := spl_word c (s.data.toList.take i)
    by_cases he : b = c
    · have e0 : decide ((b.toNat : Int) = (c.toNat : Int)) = true := decide_eq_true ((u8_eq_iff b c).2 he)
      have e1 : decide ((((spl c (s.data.toList.take i)).map mkB).length + 1) * 16 ≤ 140737488355328) = true := decide_eq_true (by rw [hml]; omega)
      simp only [ref07_Split_b3, d0, d1, Bool.and_self, if_true, Int.toNat_natCast, hg, e0, e1, hw, ht]
      subst he
      rw [spl_snoc_eq, List.map_append]
      rfl
    · have e0 : decide ((b.toNat : Int) = (c.toNat : Int)) = false := decide_eq_false (fun h => he ((u8_eq_iff b c).1 h))
      have hst := spl_snoc_ne c b he (s.data.toList.take i)
      generalize hS : spl c (s.data.toList.take i) = S at *
      obtain ⟨k, hk⟩ : ∃ k, S.length = k + 1 := ⟨S.length - 1, by omega⟩
      have hk1 : S.length - 1 = k := by omega
      rw [hk1] at hst
      have hwl : IntKind.i64.wrap ((((S.map mkB).length : Nat) : Int) - 1) = (k : Int) := by rw [hml, hk, wrap_i64] <;> omega
      have e1 : decide ((0 : Int) ≤ (k : Int)) = true := decide_eq_true (by omega)
      have e2 : decide ((k : Int) < (((S.map mkB).length : Nat) : Int)) = true := decide_eq_true (by rw [hml]; omega)
      have e3 : decide (k < (S.map mkB).length) = true := decide_eq_true (by rw [hml]; omega)
      have e4 : decide ((i : Int) ≤ ((i + 1 : Nat) : Int)) = true := decide_eq_true (by omega)
      have e5 : decide (((i + 1 : Nat) : Int) ≤ (s.size : Int)) = true := decide_eq_true (by omega)
      have hgd : (S.map mkB).getD k ByteArray.empty = mkB (S.getD k []) := by
        rw [List.getD_eq_getElem?_getD, List.getElem?_map, List.getD_eq_getElem?_getD, List.getElem?_eq_getElem (by omega)]
        rfl
      have hmem : S.getD k [] ∈ S := by
        rw [List.getD_eq_getElem?_getD, List.getElem?_eq_getElem (by omega)]
        exact List.getElem_mem _
      have hsw := hwords _ hmem
      have hms : (mkB (S.getD k [])).size = (S.getD k []).length := by show (S.getD k []).toArray.size = _; rw [List.size_toArray]
      have hes : (s.extract i (i + 1)).size ≤ 1 := by rw [ByteArray.size_extract]; omega
      have e6 : decide ((mkB (S.getD k [])).size + (s.extract i (i + 1)).size ≤ 9223372036854775807) = true := decide_eq_true (by rw [hms]; omega)
      simp only [ref07_Split_b3, d0, d1, Bool.and_self, if_true, Int.toNat_natCast, hg, e0, Bool.false_eq_true, if_false, hwl, e1, e2, e3, hw, e4, e5, hgd, e6, ht, hst]
      rw [List.map_set, ← mkB_app s _ i b hb]
      rfl
  · right
    have : i = s.size := by omega
    subst this
    have d0 : decide ((s.size : Int) < (s.size : Int)) = false := decide_eq_false (by omega)
    simp only [ref07_Split_b3, d0, Bool.false_eq_true, if_false]
    rw [← hsz, List.take_length, spB_mk]
theorem rsplit_is (c : UInt8) (s : ByteArray) (hs : s.size ≤ 1000001) : ref07_Split s (c.toNat : Int) = some (spB c s) := by
  unfold ref07_Split
  rw [rsplit_loop c s hs]; rfl

theorem rlines_is (s : ByteArray) (hs : s.size ≤ 1000000) : ref07_Lines s = some (linesOf s) := by
  unfold ref07_Lines linesOf
  rw [beq_nil]
  by_cases h0 : s.size = 0
  · simp [h0]
  · rw [if_neg (by simpa using h0), if_neg h0, show (10 : Int) = ((10 : UInt8).toNat : Int) from rfl, rsplit_is 10 s (by omega)]
    simp only [Option.bind_some]
    have hL : (spB 10 s).length ≤ 1000001 := by have := spB_len 10 s; omega
    have hW : ∀ w ∈ spB 10 s, w.size ≤ 1000000 := fun w h => by have := spB_word 10 s w h; omega
    generalize spB 10 s = L at *
    have key : runLoop ref07_Lines_b6 ((0 : Int), L, []) = some (L.map (spB 32)) := by
      refine runLoop_to (fun i : Nat => i ≤ L.length) (fun i : Nat => ((i : Int), L, (L.take i).map (spB 32))) (fun i => L.length - i) _ ?_ 0 (Nat.zero_le _)
      intro i hi
      by_cases hlt : i < L.length
      · left
        refine ⟨i + 1, ?_, hlt, by omega⟩
        have d0 : decide ((i : Int) < (L.length : Int)) = true := decide_eq_true (by omega)
        have d1 : decide ((0 : Int) ≤ (i : Int)) = true := decide_eq_true (by omega)
        have d2 : decide (i < L.length) = true := decide_eq_true hlt
        have hg : L.getD i ByteArray.empty = L[i] := by rw [List.getD_eq_getElem?_getD, List.getElem?_eq_getElem hlt]; rfl
        have hw : IntKind.i64.wrap ((i : Int) + 1) = ((i + 1 : Nat) : Int) := by rw [wrap_i64] <;> omega
        have hsp := rsplit_is 32 L[i] (by have := hW _ (List.getElem_mem hlt); omega)
        rw [show ((32 : UInt8).toNat : Int) = (32 : Int) from rfl] at hsp
        have hml : ((L.take i).map (spB 32)).length = i := by rw [List.length_map, List.length_take]; omega
        have e1 : decide ((((L.take i).map (spB 32)).length + [spB 32 L[i]].length) * 24 ≤ 140737488355328) = true := decide_eq_true (by rw [hml]; simp; omega)
        simp only [ref07_Lines_b6, d0, d1, d2, Bool.and_self, if_true, Int.toNat_natCast, hg, hsp, Option.bind_some, e1, hw]
        rw [List.take_add_one, List.getElem?_eq_getElem hlt, List.map_append]
        rfl
      · right
        have : i = L.length := by omega
        subst this
        have d0 : decide ((L.length : Int) < (L.length : Int)) = false := decide_eq_false (by omega)
        simp only [ref07_Lines_b6, d0, Bool.false_eq_true, if_false, List.take_length]
    rw [key]
    rfl

def rngB (f t : Nat) (b : UInt8) : Bool := decide (f ≤ b.toNat) && decide (b.toNat ≤ t)
theorem rng_contains (L : List UInt8) (f t : Nat) (h : (List.range 256).all (fun n => L.contains (UInt8.ofNat n) == (decide (f ≤ n) && decide (n ≤ t))) = true) (b : UInt8) : L.contains b = rngB f t b := by
  have := List.all_eq_true.1 h b.toNat (List.mem_range.2 (by have := b.toNat_lt; omega))
  rw [UInt8.ofNat_toNat] at this
  exact beq_iff_eq.1 this
def hexB (b : UInt8) : Bool := rngB 48 57 b || rngB 65 70 b
theorem hex_contains (b : UInt8) : digitsB.data.toList.contains b = hexB b := by
  have h : (List.range 256).all (fun n => digitsB.data.toList.contains (UInt8.ofNat n) == ((decide (48 ≤ n) && decide (n ≤ 57)) || (decide (65 ≤ n) && decide (n ≤ 70)))) = true := by decide +kernel
  have := List.all_eq_true.1 h b.toNat (List.mem_range.2 (by have := b.toNat_lt; omega))
  rw [UInt8.ofNat_toNat] at this
  exact beq_iff_eq.1 this
theorem allIn_hex (s : ByteArray) : allIn digitsB s = s.data.toList.all hexB := by
  unfold allIn
  congr 1
  funext b
  exact hex_contains b
theorem allIn_rng (B s : ByteArray) (f t : Nat) (h : (List.range 256).all (fun n => B.data.toList.contains (UInt8.ofNat n) == (decide (f ≤ n) && decide (n ≤ t))) = true) : allIn B s = s.data.toList.all (rngB f t) := by
  unfold allIn
  congr 1
  funext b
  exact rng_contains _ f t h b
theorem hexD_iff (b : UInt8) : hexB b = true ↔ hexD b := by
  unfold hexB rngB hexD
  simp

theorem rdigit_is (b : UInt8) : ref07_digit (b.toNat : Int) = some (if hexB b then (hexV b : Int) else -1) := by
  have hb := b.toNat_lt
  unfold ref07_digit
  by_cases h : hexB b = true
  · rw [if_pos h]
    rcases (hexD_iff b).1 h with ⟨h1, h2⟩ | ⟨h1, h2⟩
    · have hv : hexV b = b.toNat - 48 := by unfold hexV; rw [if_pos h2]
      have c1 : decide ((b.toNat : Int) ≥ 48) = true := decide_eq_true (by omega)
      have c2 : decide ((b.toNat : Int) ≤ 57) = true := decide_eq_true (by omega)
      have w5 : IntKind.u8.wrap ((b.toNat : Int) - 48) = ((b.toNat - 48 : Nat) : Int) := by rw [IntKind.wrap_u8]; omega
      have w6 : IntKind.i64.wrap ((b.toNat - 48 : Nat) : Int) = ((b.toNat - 48 : Nat) : Int) := by rw [wrap_i64] <;> omega
      simp only [c1, c2, if_true, w5, w6, hv]
    · have hv : hexV b = b.toNat - 55 := by unfold hexV; rw [if_neg (by omega)]
      have c1 : decide ((b.toNat : Int) ≥ 48) = true := decide_eq_true (by omega)
      have c2 : decide ((b.toNat : Int) ≤ 57) = false := decide_eq_false (by omega)
      have c3 : decide ((b.toNat : Int) ≥ 65) = true := decide_eq_true (by omega)
      have c4 : decide ((b.toNat : Int) ≤ 70) = true := decide_eq_true (by omega)
      have w5 : IntKind.u8.wrap ((b.toNat : Int) - 65) = ((b.toNat - 65 : Nat) : Int) := by rw [IntKind.wrap_u8]; omega
      have w6 : IntKind.i64.wrap ((b.toNat - 65 : Nat) : Int) = ((b.toNat - 65 : Nat) : Int) := by rw [wrap_i64] <;> omega
      have w7 : IntKind.i64.wrap (((b.toNat - 65 : Nat) : Int) + 10) = ((b.toNat - 55 : Nat) : Int) := by rw [wrap_i64] <;> omega
      simp only [c1, c2, c3, c4, if_true, Bool.false_eq_true, if_false, w5, w6, w7, hv]
  · rw [if_neg h]
    have hn : ¬ hexD b := fun e => h ((hexD_iff b).2 e)
    unfold hexD at hn
    by_cases h1 : 48 ≤ b.toNat
    · have c1 : decide ((b.toNat : Int) ≥ 48) = true := decide_eq_true (by omega)
      have c2 : decide ((b.toNat : Int) ≤ 57) = false := decide_eq_false (by omega)
      by_cases h2 : 65 ≤ b.toNat
      · have c3 : decide ((b.toNat : Int) ≥ 65) = true := decide_eq_true (by omega)
        have c4 : decide ((b.toNat : Int) ≤ 70) = false := decide_eq_false (by omega)
        simp only [c1, c2, c3, c4, if_true, Bool.false_eq_true, if_false]
      · have c3 : decide ((b.toNat : Int) ≥ 65) = false := decide_eq_false (by omega)
        simp only [c1, c2, c3, if_true, Bool.false_eq_true, if_false]
    · have c1 : decide ((b.toNat : Int) ≥ 48) = false := decide_eq_false (by omega)
      have c3 : decide ((b.toNat : Int) ≥ 65) = false := decide_eq_false (by omega)
      simp only [c1, c3, Bool.false_eq_true, if_false]

theorem rpoint_loop (s : ByteArray) (h6 : s.size ≤ 6) : runLoop ref07_Point_b5 (s, 0, 0) = some (if s.data.toList.all hexB then .inl (hexN s.data.toList : Int) else .inr (-1)) := by
  have hsz : s.data.toList.length = s.size := Array.length_toList
  refine runLoop_to (fun i : Nat => i ≤ s.size ∧ (s.data.toList.take i).all hexB = true) (fun i : Nat => (s, ((hexN (s.data.toList.take i) : Nat) : Int), (i : Int))) (fun i => s.size - i) _ ?_ 0 ⟨Nat.zero_le _, rfl⟩
  intro i ⟨hi, ha⟩
  by_cases hlt : i < s.size
  · obtain ⟨b, hb⟩ : ∃ b, s.data.toList[i]? = some b := ⟨_, List.getElem?_eq_getElem (by omega)⟩
    have d0 : decide ((i : Int) < (s.size : Int)) = true := decide_eq_true (by omega)
    have d1 : decide ((0 : Int) ≤ (i : Int)) = true := decide_eq_true (by omega)
    have hg := getD_at _ i b hb
    have hd := rdigit_is b
    by_cases hx : hexB b = true
    · left
      rw [if_pos hx] at hd
      have ht : s.data.toList.take (i + 1) = s.data.toList.take i ++ [b] := by rw [List.take_add_one, hb]; rfl
      refine ⟨i + 1, ?_, ⟨hlt, by rw [ht, List.all_append, ha]; simp [hx]⟩, by omega⟩
      have hn : hexN (s.data.toList.take i) ≤ 1048575 := by
        have := hexN_lt (s.data.toList.take i) (fun b hb => (hexD_iff b).1 (List.all_eq_true.1 ha b hb))
        have hl : (s.data.toList.take i).length ≤ 5 := by rw [List.length_take]; omega
        have : 16 ^ (s.data.toList.take i).length ≤ 16 ^ 5 := Nat.pow_le_pow_right (by omega) hl
        omega
      have hst : hexN (s.data.toList.take (i + 1)) = hexN (s.data.toList.take i) * 16 + hexV b := by rw [ht]; simp [hexN]
      have hv := hexV_lt ((hexD_iff b).1 hx)
      rw [hst]
      generalize hexN (s.data.toList.take i) = n at *
      generalize hexV b = v at *
      have w3 : IntKind.i64.wrap ((n : Int) * 16) = n * 16 := by rw [wrap_i64] <;> omega
      have w4 : IntKind.i64.wrap ((i : Int) + 1) = ((i + 1 : Nat) : Int) := by rw [wrap_i64] <;> omega
      have w7 : IntKind.i64.wrap ((n : Int) * 16 + (v : Int)) = ((n * 16 + v : Nat) : Int) := by rw [wrap_i64] <;> omega
      have c1 : decide ((v : Int) < 0) = false := decide_eq_false (by omega)
      simp only [ref07_Point_b5, d0, d1, Bool.and_self, if_true, Int.toNat_natCast, hg, hd, Option.bind_some, c1, Bool.false_eq_true, if_false, w3, w4, w7]
    · right
      rw [if_neg hx] at hd
      have hall : s.data.toList.all hexB = false := by
        cases e : s.data.toList.all hexB with
        | false => rfl
        | true => exact absurd (List.all_eq_true.1 e b (List.mem_of_getElem? hb)) hx
      have c1 : decide ((-1 : Int) < 0) = true := rfl
      simp only [ref07_Point_b5, d0, d1, Bool.and_self, if_true, Int.toNat_natCast, hg, hd, Option.bind_some, c1, hall, Bool.false_eq_true, if_false]
  · right
    have : i = s.size := by omega
    subst this
    have d0 : decide ((s.size : Int) < (s.size : Int)) = false := decide_eq_false (by omega)
    rw [← hsz, List.take_length] at ha
    rw [if_pos ha]
    simp only [ref07_Point_b5, d0, Bool.false_eq_true, if_false]
    rw [← hsz, List.take_length]

theorem rpoint_is (s : ByteArray) : ref07_Point s = some (if ptOK s then (ptN s : Int) else -1) := by
  have hsz : s.data.toList.length = s.size := Array.length_toList
  unfold ref07_Point
  by_cases h4 : s.size < 4
  · have c : decide ((s.size : Int) < 4) = true := decide_eq_true (by omega)
    have hp : ptOK s = false := by unfold ptOK isPt; rw [decide_eq_false (by omega : ¬ 4 ≤ s.size)]; rfl
    simp only [c, if_true, hp, Bool.false_eq_true, if_false]
  · have c : decide ((s.size : Int) < 4) = false := decide_eq_false (by omega)
    by_cases h6 : s.size > 6
    · have c2 : decide ((s.size : Int) > 6) = true := decide_eq_true (by omega)
      have hp : ptOK s = false := by unfold ptOK isPt; rw [decide_eq_false (by omega : ¬ s.size ≤ 6)]; simp
      simp only [c, c2, if_true, hp, Bool.false_eq_true, if_false]
    · have c2 : decide ((s.size : Int) > 6) = false := decide_eq_false (by omega)
      have e4 : decide (4 ≤ s.size) = true := decide_eq_true (by omega)
      have e6 : decide (s.size ≤ 6) = true := decide_eq_true (by omega)
      have hloop := rpoint_loop s (by omega)
      have fin : isPt s = s.data.toList.all hexB → ((runLoop ref07_Point_b5 (s, (0 : Int), (0 : Int))).bind fun r3_0 =>
          match r3_0 with
          | .inl r4_0 => if (decide (r4_0 > (1114111 : Int))) = true then some (-1 : Int) else some r4_0
          | .inr r5_0 => some r5_0) = some (if ptOK s then (ptN s : Int) else -1) := by
        intro hI
        rw [hloop]
        simp only [Option.bind_some]
        cases ha : s.data.toList.all hexB
        · simp [ptOK, hI, ha]
        · simp only [if_true, ptOK, ptN, hI, ha, Bool.true_and]
          by_cases hl : hexN s.data.toList ≤ 1114111
          · have : decide ((hexN s.data.toList : Int) > 1114111) = false := decide_eq_false (by omega)
            simp [this, hl]
          · have : decide ((hexN s.data.toList : Int) > 1114111) = true := decide_eq_true (by omega)
            simp [this, hl]
      by_cases h5 : 4 < s.size
      · have g5 : decide ((s.size : Int) > 4) = true := decide_eq_true (by omega)
        have g0 : decide ((0 : Int) < (s.size : Int)) = true := decide_eq_true (by omega)
        by_cases hz : s.data.toList.getD 0 0 = 48
        · have hz' : decide (((s.data.toList.getD 0 (0 : UInt8)).toNat : Int) = 48) = true := decide_eq_true (by rw [hz]; rfl)
          have hp : ptOK s = false := by unfold ptOK isPt; rw [decide_eq_true h5, hz]; simp
          simp only [c, c2, g5, g0, hz', if_true, hp, Bool.false_eq_true, if_false]
        · have hz' : decide (((s.data.toList.getD 0 (0 : UInt8)).toNat : Int) = 48) = false := decide_eq_false (fun e => hz (UInt8.toNat_inj.1 (by have : (48 : UInt8).toNat = 48 := rfl; omega)))
          simp only [c, c2, g5, g0, hz', if_true, Bool.false_eq_true, if_false]
          refine fin ?_
          unfold isPt
          rw [e4, e6, decide_eq_true h5, allIn_hex]
          have : (s.data.toList.getD 0 0 == 48) = false := by simpa using hz
          rw [this]; simp
      · have g5 : decide ((s.size : Int) > 4) = false := decide_eq_false (by omega)
        simp only [c, c2, g5, Bool.false_eq_true, if_false]
        refine fin ?_
        unfold isPt
        rw [e4, e6, decide_eq_false h5, allIn_hex]; simp

theorem ptN_le {s : ByteArray} (h : ptOK s = true) : ptN s ≤ 1114111 := by
  unfold ptOK at h
  simp only [Bool.and_eq_true, decide_eq_true_eq] at h
  unfold ptN
  rw [if_pos h.1]; exact h.2
theorem rspan_is (a b : ByteArray) : ref07_span a b = some (if spanOK a b then (true, (ptN a : Int), (ptN b : Int)) else (false, 0, 0)) := by
  unfold ref07_span
  rw [rpoint_is a, rpoint_is b]
  simp only [Option.bind_some]
  unfold spanOK
  cases ha : ptOK a
  · simp
  · cases hb : ptOK b
    · have c1 : decide ((ptN a : Int) < 0) = false := decide_eq_false (by omega)
      simp [c1]
    · have c1 : decide ((ptN a : Int) < 0) = false := decide_eq_false (by omega)
      have c2 : decide ((ptN b : Int) < 0) = false := decide_eq_false (by omega)
      have la := ptN_le ha
      have lb := ptN_le hb
      have wa : IntKind.u32.wrap (ptN a : Int) = ptN a := by rw [IntKind.wrap_u32]; omega
      have wb : IntKind.u32.wrap (ptN b : Int) = ptN b := by rw [IntKind.wrap_u32]; omega
      by_cases hle : ptN a ≤ ptN b
      · have c3 : decide ((ptN a : Int) > (ptN b : Int)) = false := decide_eq_false (by omega)
        simp [c1, c2, c3, wa, wb, hle]
      · have c3 : decide ((ptN a : Int) > (ptN b : Int)) = true := decide_eq_true (by omega)
        simp [c1, c2, c3, hle]

theorem rall_loop (s : ByteArray) (f t : Nat) (l m : Int) (hs : s.size ≤ 9223372036854775806) : runLoop ref07_all_b2 (s, (f : Int), (t : Int), l, m, 0) = some (if s.data.toList.all (rngB f t) then .inr (s, l, m) else .inl false) := by
  have hsz : s.data.toList.length = s.size := Array.length_toList
  refine runLoop_to (fun i : Nat => i ≤ s.size ∧ (s.data.toList.take i).all (rngB f t) = true) (fun i : Nat => (s, (f : Int), (t : Int), l, m, (i : Int))) (fun i => s.size - i) _ ?_ 0 ⟨Nat.zero_le _, rfl⟩
  intro i ⟨hi, ha⟩
  by_cases hlt : i < s.size
  · obtain ⟨b, hb⟩ : ∃ b, s.data.toList[i]? = some b := ⟨_, List.getElem?_eq_getElem (by omega)⟩
    have d0 : decide ((i : Int) < (s.size : Int)) = true := decide_eq_true (by omega)
    have d1 : decide ((0 : Int) ≤ (i : Int)) = true := decide_eq_true (by omega)
    have hg := getD_at _ i b hb
    have no : rngB f t b = false → s.data.toList.all (rngB f t) = false := fun hx => by
      cases e : s.data.toList.all (rngB f t) with
      | false => rfl
      | true => have := List.all_eq_true.1 e b (List.mem_of_getElem? hb); rw [hx] at this; cases this
    have w4 : IntKind.i64.wrap ((i : Int) + 1) = ((i + 1 : Nat) : Int) := by rw [wrap_i64] <;> omega
    by_cases h1 : f ≤ b.toNat
    · have c1 : decide ((b.toNat : Int) < (f : Int)) = false := decide_eq_false (by omega)
      by_cases h2 : b.toNat ≤ t
      · left
        have c2 : decide ((b.toNat : Int) > (t : Int)) = false := decide_eq_false (by omega)
        have ht : s.data.toList.take (i + 1) = s.data.toList.take i ++ [b] := by rw [List.take_add_one, hb]; rfl
        refine ⟨i + 1, ?_, ⟨hlt, by rw [ht, List.all_append, ha]; simp [rngB, h1, h2]⟩, by omega⟩
        simp only [ref07_all_b2, d0, d1, Bool.and_self, if_true, Int.toNat_natCast, hg, c1, c2, Bool.false_eq_true, if_false, w4]
      · right
        have c2 : decide ((b.toNat : Int) > (t : Int)) = true := decide_eq_true (by omega)
        rw [no (by simp [rngB, h2])]
        simp only [ref07_all_b2, d0, d1, Bool.and_self, if_true, Int.toNat_natCast, hg, c1, c2, Bool.false_eq_true, if_false]
    · right
      have c1 : decide ((b.toNat : Int) < (f : Int)) = true := decide_eq_true (by omega)
      rw [no (by simp [rngB, h1])]
      simp only [ref07_all_b2, d0, d1, Bool.and_self, if_true, Int.toNat_natCast, hg, c1, Bool.false_eq_true, if_false]
  · right
    have : i = s.size := by omega
    subst this
    have d0 : decide ((s.size : Int) < (s.size : Int)) = false := decide_eq_false (by omega)
    rw [← hsz, List.take_length] at ha
    rw [if_pos ha]
    simp only [ref07_all_b2, d0, Bool.false_eq_true, if_false]
theorem rall_is (s : ByteArray) (f t l m : Nat) (hs : s.size ≤ 9223372036854775806) : ref07_all s (f : Int) (t : Int) (l : Int) (m : Int) = some (s.data.toList.all (rngB f t) && decide (l ≤ s.size) && decide (s.size ≤ m)) := by
  unfold ref07_all
  rw [rall_loop s f t l m hs]
  simp only [Option.bind_some]
  cases s.data.toList.all (rngB f t)
  · rfl
  · by_cases h : l ≤ s.size
    · have c : decide ((s.size : Int) ≥ (l : Int)) = true := decide_eq_true (by omega)
      simp [c, h]
    · have c : decide ((s.size : Int) ≥ (l : Int)) = false := decide_eq_false (by omega)
      simp [c, h]

theorem dig_rng (s : ByteArray) : allIn digits10 s = s.data.toList.all (rngB 48 57) := allIn_rng _ _ _ _ (by decide +kernel)
theorem caps_rng (s : ByteArray) : allIn capsB s = s.data.toList.all (rngB 65 90) := allIn_rng _ _ _ _ (by decide +kernel)
theorem smalls_rng (s : ByteArray) : allIn smallsB s = s.data.toList.all (rngB 97 122) := allIn_rng _ _ _ _ (by decide +kernel)

theorem rnumber_loop (s : ByteArray) (h6 : s.size ≤ 3) (ha : s.data.toList.all (rngB 48 57) = true) : runLoop ref07_number_b5 (s, 0, 0) = some (decN s.data.toList : Int) := by
  have hsz : s.data.toList.length = s.size := Array.length_toList
  have hd : ∀ b ∈ s.data.toList, 48 ≤ b.toNat ∧ b.toNat ≤ 57 := fun b hb => by
    have := List.all_eq_true.1 ha b hb
    simpa [rngB] using this
  refine runLoop_to (fun i : Nat => i ≤ s.size) (fun i : Nat => (s, ((decN (s.data.toList.take i) : Nat) : Int), (i : Int))) (fun i => s.size - i) _ ?_ 0 (Nat.zero_le _)
  intro i hi
  by_cases hlt : i < s.size
  · left
    obtain ⟨b, hb⟩ : ∃ b, s.data.toList[i]? = some b := ⟨_, List.getElem?_eq_getElem (by omega)⟩
    have d0 : decide ((i : Int) < (s.size : Int)) = true := decide_eq_true (by omega)
    have d1 : decide ((0 : Int) ≤ (i : Int)) = true := decide_eq_true (by omega)
    have hg := getD_at _ i b hb
    have hbd := hd b (List.mem_of_getElem? hb)
    refine ⟨i + 1, ?_, hlt, by omega⟩
    have hn : decN (s.data.toList.take i) ≤ 100 := by
      have := decN_lt (s.data.toList.take i) (fun b hb => hd b (List.mem_of_mem_take hb))
      have hl : (s.data.toList.take i).length ≤ 2 := by rw [List.length_take]; omega
      have : 10 ^ (s.data.toList.take i).length ≤ 10 ^ 2 := Nat.pow_le_pow_right (by omega) hl
      omega
    have hst : decN (s.data.toList.take (i + 1)) = decN (s.data.toList.take i) * 10 + (b.toNat - 48) := by rw [List.take_add_one, hb]; simp [decN]
    rw [hst]
    generalize decN (s.data.toList.take i) = n at *
    have w3 : IntKind.i64.wrap ((n : Int) * 10) = n * 10 := by rw [wrap_i64] <;> omega
    have w4 : IntKind.i64.wrap ((i : Int) + 1) = ((i + 1 : Nat) : Int) := by rw [wrap_i64] <;> omega
    have w5 : IntKind.u8.wrap ((b.toNat : Int) - 48) = ((b.toNat - 48 : Nat) : Int) := by rw [IntKind.wrap_u8]; omega
    have w6 : IntKind.i64.wrap ((b.toNat - 48 : Nat) : Int) = ((b.toNat - 48 : Nat) : Int) := by rw [wrap_i64] <;> omega
    have w7 : IntKind.i64.wrap ((n : Int) * 10 + ((b.toNat - 48 : Nat) : Int)) = ((n * 10 + (b.toNat - 48) : Nat) : Int) := by rw [wrap_i64] <;> omega
    simp only [ref07_number_b5, d0, d1, Bool.and_self, if_true, Int.toNat_natCast, hg, w3, w4, w5, w6, w7]
  · right
    have : i = s.size := by omega
    subst this
    have d0 : decide ((s.size : Int) < (s.size : Int)) = false := decide_eq_false (by omega)
    simp only [ref07_number_b5, d0, Bool.false_eq_true, if_false]
    rw [← hsz, List.take_length]
theorem rnumber_is (s : ByteArray) (hs : s.size ≤ 1000000) : ref07_number s = some (if numOK s then (decN s.data.toList : Int) else 0) := by
  unfold ref07_number
  have hr := rall_is s 48 57 1 3 (by omega)
  have hr' : ref07_all s (48 : Int) (57 : Int) (1 : Int) (3 : Int) = _ := hr
  rw [hr', ← dig_rng]
  simp only [Option.bind_some]
  unfold numOK
  by_cases hA : (allIn digits10 s && decide (1 ≤ s.size) && decide (s.size ≤ 3)) = true
  · have hA' := hA
    simp only [Bool.and_eq_true, decide_eq_true_eq] at hA'
    obtain ⟨⟨a1, a2⟩, a3⟩ := hA'
    have e3 : decide ((0 : Int) < (s.size : Int)) = true := decide_eq_true (by omega)
    have hz : decide (((s.data.toList.getD 0 (0 : UInt8)).toNat : Int) = 48) = (s.data.toList.getD 0 0 == 48) := by
      rw [Bool.eq_iff_iff, decide_eq_true_eq, beq_iff_eq]
      constructor
      · intro h; exact UInt8.toNat_inj.1 (by have : (48 : UInt8).toNat = 48 := rfl; omega)
      · intro h; rw [h]; rfl
    rw [hA]
    simp only [Bool.not_true, Bool.false_eq_true, if_false, e3, if_true, hz]
    cases hZ : (s.data.toList.getD 0 0 == 48)
    · rw [rnumber_loop s a3 (by rw [← dig_rng]; exact a1)]
      simp only [Bool.false_eq_true, if_false, Option.bind_some]
      by_cases hl : decN s.data.toList ≤ 254
      · have : decide ((decN s.data.toList : Int) > 254) = false := decide_eq_false (by omega)
        simp [this, hl, a1, a2, a3]
      · have : decide ((decN s.data.toList : Int) > 254) = true := decide_eq_true (by omega)
        simp [this, hl]
    · simp
  · have hA0 : (allIn digits10 s && decide (1 ≤ s.size) && decide (s.size ≤ 3)) = false := by simpa using hA
    have h2 : (decide (1 ≤ s.size) && decide (s.size ≤ 3) && allIn digits10 s) = false := by
      rw [← hA0]
      cases allIn digits10 s <;> cases decide (1 ≤ s.size) <;> cases decide (s.size ≤ 3) <;> rfl
    rw [hA0, h2]
    simp
end Go.Pc

/- The document's charts of classes and runs: pure. -/
set_option linter.unusedVariables false
set_option linter.unusedSimpArgs false
set_option maxRecDepth 100000
namespace Go.Pc
open Go Go.Sx Go.Tx

/-- What the document hands back: the first line that is none, and what was read. -/
def resB {T : Type} (r : List T ⊕ Nat) : Int × List T := match r with
  | .inl l => (0, l)
  | .inr k => ((k : Int), [])
def outB {T : Type} (r : List T ⊕ Nat) : Int ⊕ List T := match r with
  | .inl l => .inr l
  | .inr k => .inl (k : Int)

def stepB {T : Type} (L : List (List ByteArray)) (i : Nat) (acc : List T) : Option T → (Int × List (List ByteArray) × List T) ⊕ (Int ⊕ List T)
  | none => .inr (.inl ((i + 1 : Nat) : Int))
  | some x => .inl (((i + 1 : Nat) : Int), L, acc ++ [x])
theorem readB_go {T : Type} (b : Int × List (List ByteArray) × List T → Option ((Int × List (List ByteArray) × List T) ⊕ (Int ⊕ List T))) (one : List ByteArray → List T → Option T) (L : List (List ByteArray))
    (hend : ∀ acc, b ((L.length : Int), L, acc) = some (.inr (.inr acc)))
    (hstep : ∀ (i : Nat) (acc : List T) (w : List ByteArray), L[i]? = some w → acc.length = i → i < L.length → b ((i : Int), L, acc) = some (stepB L i acc (one w acc))) :
    ∀ (n i : Nat) (acc : List T), n + i = L.length → acc.length = i → runLoop b ((i : Int), L, acc) = some (outB (readR one (L.drop i) acc i)) := by
  intro n
  induction n with
  | zero =>
    intro i acc h1 h2
    have : i = L.length := by omega
    subst this
    rw [runLoop_done (hend acc), List.drop_length]; rfl
  | succ n ih =>
    intro i acc h1 h2
    have hi : i < L.length := by omega
    have hs := hstep i acc L[i] (List.getElem?_eq_getElem hi) h2 hi
    rw [List.drop_eq_getElem_cons hi]
    unfold readR
    cases ho : one L[i] acc with
    | none => rw [ho] at hs; rw [runLoop_done hs]; rfl
    | some x => rw [ho] at hs; rw [runLoop_step hs]; exact ih (i + 1) (acc ++ [x]) (by omega) (by simp [h2])

theorem lines_len (s : ByteArray) (hs : s.size ≤ 1000000) : (linesOf s).length ≤ 1000001 := by
  unfold linesOf
  split
  · simp
  · rw [List.length_map]; have := spB_len 10 s; omega
theorem lines_word (s : ByteArray) (hs : s.size ≤ 1000000) : ∀ w ∈ linesOf s, w.length ≤ 1000001 ∧ ∀ x ∈ w, x.size ≤ 1000000 := by
  intro w hw
  unfold linesOf at hw
  split at hw
  · cases hw
  · obtain ⟨l, hl, rfl⟩ := List.mem_map.1 hw
    have h1 := spB_word 10 s l hl
    have h2 := spB_len 32 l
    exact ⟨by omega, fun x hx => by have := spB_word 32 l x hx; omega⟩

theorem behind_get {T : Type} (acc : List T) (key : T → Int) (d : T) (x : Int) (i : Nat) (ha : acc.length = i) (hi : 0 < i) : behindI (acc.getLast?.map key) x = !decide (key (acc.getD (i - 1) d) ≥ x) := by
  rcases last_cases acc with rfl | ⟨j, e, rfl⟩
  · simp at ha; omega
  · have hj : i - 1 = j.length := by rw [← ha]; simp
    rw [hj, getD_lst, List.getLast?_concat]
    show decide (key e < x) = _
    by_cases h : key e < x
    · have : ¬ key e ≥ x := by omega
      simp [h, this]
    · have : key e ≥ x := by omega
      simp [h, this]
theorem nil_of_len {T : Type} {l : List T} (h : l.length = 0) : l = [] := List.length_eq_zero_iff.1 h

theorem decN_ge (l : List UInt8) : ∀ a : Nat, a ≤ l.foldl (fun n b => n * 10 + (b.toNat - 48)) a := by
  induction l with
  | nil => intro a; exact Nat.le_refl _
  | cons b r ih =>
    intro a
    rw [List.foldl_cons]
    exact Nat.le_trans (by omega) (ih _)
theorem decN_pos (c : ByteArray) (h1 : 1 ≤ c.size) (h3 : allIn digits10 c = true) (h4 : (!(c.data.toList.getD 0 0 == 48)) = true) : 0 < decN c.data.toList := by
  have hsz : c.data.toList.length = c.size := Array.length_toList
  have hd := dig_of h3
  cases hq : c.data.toList with
  | nil => rw [hq] at hsz; simp at hsz; omega
  | cons x r =>
    rw [hq] at hd h4
    have hx := hd x (by simp)
    have hne : x ≠ 48 := by simpa [List.getD] using h4
    have hn : x.toNat ≠ 48 := fun e => hne (UInt8.toNat_inj.1 e)
    unfold decN
    rw [List.foldl_cons]
    have := decN_ge r (0 * 10 + (x.toNat - 48))
    omega

theorem rClasses_step (L : List (List ByteArray)) (hLl : L.length ≤ 1000001) (hLw : ∀ w ∈ L, w.length ≤ 1000001 ∧ ∀ x ∈ w, x.size ≤ 1000000) (i : Nat) (acc : List (Int × Int × Int)) (w : List ByteArray) (hw : L[i]? = some w) (ha : acc.length = i) (hi : i < L.length) :
    ref07_Classes_b4 ((i : Int), L, acc) = some (stepB L i acc (oneW w acc)) := by
  have hm : w ∈ L := List.mem_of_getElem? hw
  have d0 : decide ((i : Int) < (L.length : Int)) = true := decide_eq_true (by omega)
  have d1 : decide ((0 : Int) ≤ (i : Int)) = true := decide_eq_true (by omega)
  have d2 : decide (i < L.length) = true := decide_eq_true hi
  have hg : L.getD i [] = w := by rw [List.getD_eq_getElem?_getD, hw]; rfl
  have hwr : IntKind.i64.wrap ((i : Int) + 1) = ((i + 1 : Nat) : Int) := by rw [wrap_i64] <;> omega
  by_cases h3 : w.length = 3
  · obtain ⟨a, b, c, rfl⟩ := three h3
    have hc := (hLw _ hm).2 c (by simp)
    have e0 : ((([a, b, c].length : Nat) : Int) != 3) = false := rfl
    have e1 : decide ((0 : Int) < (([a, b, c].length : Nat) : Int)) = true := rfl
    have e2 : decide (0 < [a, b, c].length) = true := rfl
    have e3 : decide ((1 : Int) < (([a, b, c].length : Nat) : Int)) = true := rfl
    have e4 : decide (1 < [a, b, c].length) = true := rfl
    have e5 : decide ((2 : Int) < (([a, b, c].length : Nat) : Int)) = true := rfl
    have e6 : decide (2 < [a, b, c].length) = true := rfl
    have g0 : [a, b, c].getD 0 ByteArray.empty = a := rfl
    have g1 : [a, b, c].getD 1 ByteArray.empty = b := rfl
    have g2 : [a, b, c].getD 2 ByteArray.empty = c := rfl
    simp only [ref07_Classes_b4, d0, d1, d2, Bool.and_self, if_true, Int.toNat_natCast, hg, e0, Bool.false_eq_true, if_false, e1, e2, e3, e4, e5, e6, g0, g1, g2, rspan_is a b, rnumber_is c (by omega), Option.bind_some, hwr]
    cases hS : spanOK a b
    · have ho : oneW [a, b, c] acc = none := by simp only [oneW, hS, Bool.false_and, Bool.false_eq_true, if_false]
      rw [ho]
      simp only [Bool.false_eq_true, if_false, Bool.not_false, if_true, stepB]
    · cases hN : numOK c
      · have ho : oneW [a, b, c] acc = none := by simp only [oneW, hN, Bool.and_false, Bool.false_eq_true, if_false]
        rw [ho]
        simp only [Bool.false_eq_true, if_false, Bool.not_true, if_true, show decide ((0 : Int) = 0) = true from rfl, decide_true, stepB]
      · have hN' := hN
        simp only [numOK, Bool.and_eq_true, decide_eq_true_eq] at hN'
        obtain ⟨⟨⟨⟨m1, m2⟩, m3⟩, m4⟩, m5⟩ := hN'
        have hpos : 0 < decN c.data.toList := decN_pos c m1 m3 m4
        have hz : decide ((decN c.data.toList : Int) = 0) = false := decide_eq_false (by omega)
        have hu : IntKind.u32.wrap (decN c.data.toList : Int) = decN c.data.toList := by rw [IntKind.wrap_u32]; omega
        simp only [if_true, Bool.not_true, Bool.false_eq_true, if_false, hz, hu]
        by_cases h0 : 0 < i
        · have c1 : decide ((i : Int) > 0) = true := decide_eq_true (by omega)
          have hwp : IntKind.i64.wrap ((i : Int) - 1) = ((i - 1 : Nat) : Int) := by rw [wrap_i64] <;> omega
          have c2 : decide ((0 : Int) ≤ ((i - 1 : Nat) : Int)) = true := decide_eq_true (by omega)
          have c3 : decide (((i - 1 : Nat) : Int) < (acc.length : Int)) = true := decide_eq_true (by omega)
          have c4 : decide (i - 1 < acc.length) = true := decide_eq_true (by omega)
          have hb := behind_get acc (fun e => e.2.1) ((0 : Int), (0 : Int), (0 : Int)) (ptN a : Int) i ha h0
          simp only [c1, if_true, hwp, c2, c3, Bool.and_self, Int.toNat_natCast, c4]
          cases hB : decide ((acc.getD (i - 1) ((0 : Int), (0 : Int), (0 : Int))).2.1 ≥ (ptN a : Int))
          · have ho : oneW [a, b, c] acc = some ((ptN a : Int), (ptN b : Int), (decN c.data.toList : Int)) := by
              simp only [oneW, hS, hN, hb]
              rw [hB]; rfl
            have hlen : decide ((acc.length + [((ptN a : Int), (ptN b : Int), (decN c.data.toList : Int))].length) * 12 ≤ 140737488355328) = true := decide_eq_true (by simp; omega)
            rw [ho]
            simp only [Bool.false_eq_true, if_false, hlen, if_true, stepB]
          · have ho : oneW [a, b, c] acc = none := by
              simp only [oneW, hS, hN, hb]
              rw [hB]; rfl
            rw [ho]
            simp only [if_true, stepB]
        · have c1 : decide ((i : Int) > 0) = false := decide_eq_false (by omega)
          have hnil : acc = [] := nil_of_len (by omega)
          subst hnil
          have ho : oneW [a, b, c] [] = some ((ptN a : Int), (ptN b : Int), (decN c.data.toList : Int)) := by
            simp only [oneW, hS, hN]
            rfl
          rw [ho]
          simp only [c1, Bool.false_eq_true, if_false]
          rfl
  · have e0 : (((w.length : Nat) : Int) != 3) = true := by simp; omega
    have ho : oneW w acc = none := oneW_ne acc h3
    rw [ho]
    simp only [ref07_Classes_b4, d0, d1, d2, Bool.and_self, if_true, Int.toNat_natCast, hg, e0, hwr, stepB]
theorem rClasses_is (s : ByteArray) (hs : s.size ≤ 1000000) : ref07_Classes s = some (resB (readR oneW (linesOf s) [] 0)) := by
  unfold ref07_Classes
  rw [rlines_is s hs]
  simp only [Option.bind_some]
  have h1 := lines_len s hs
  have h2 := lines_word s hs
  generalize linesOf s = L at *
  have key := readB_go ref07_Classes_b4 oneW L (fun acc => by simp [ref07_Classes_b4]) (rClasses_step L h1 h2) L.length 0 [] (by omega) rfl
  rw [show ((0 : Nat) : Int) = 0 from rfl, List.drop_zero] at key
  rw [key]
  simp only [Option.bind_some]
  cases readR oneW L [] 0 <;> rfl

theorem rRuns_step (L : List (List ByteArray)) (hLl : L.length ≤ 1000001) (hLw : ∀ w ∈ L, w.length ≤ 1000001 ∧ ∀ x ∈ w, x.size ≤ 1000000) (i : Nat) (acc : List (Int × Int × Int)) (w : List ByteArray) (hw : L[i]? = some w) (ha : acc.length = i) (hi : i < L.length) :
    ref07_Runs_b4 ((i : Int), L, acc) = some (stepB L i acc (oneRun w acc)) := by
  have hm : w ∈ L := List.mem_of_getElem? hw
  have d0 : decide ((i : Int) < (L.length : Int)) = true := decide_eq_true (by omega)
  have d1 : decide ((0 : Int) ≤ (i : Int)) = true := decide_eq_true (by omega)
  have d2 : decide (i < L.length) = true := decide_eq_true hi
  have hg : L.getD i [] = w := by rw [List.getD_eq_getElem?_getD, hw]; rfl
  have hwr : IntKind.i64.wrap ((i : Int) + 1) = ((i + 1 : Nat) : Int) := by rw [wrap_i64] <;> omega
  by_cases h3 : w.length = 3
  · obtain ⟨a, b, c, rfl⟩ := three h3
    have hc := (hLw _ hm).2 c (by simp)
    have e0 : ((([a, b, c].length : Nat) : Int) != 3) = false := rfl
    have e1 : decide ((0 : Int) < (([a, b, c].length : Nat) : Int)) = true := rfl
    have e2 : decide (0 < [a, b, c].length) = true := rfl
    have e3 : decide ((1 : Int) < (([a, b, c].length : Nat) : Int)) = true := rfl
    have e4 : decide (1 < [a, b, c].length) = true := rfl
    have e5 : decide ((2 : Int) < (([a, b, c].length : Nat) : Int)) = true := rfl
    have e6 : decide (2 < [a, b, c].length) = true := rfl
    have g0 : [a, b, c].getD 0 ByteArray.empty = a := rfl
    have g1 : [a, b, c].getD 1 ByteArray.empty = b := rfl
    have g2 : [a, b, c].getD 2 ByteArray.empty = c := rfl
    simp only [ref07_Runs_b4, d0, d1, d2, Bool.and_self, if_true, Int.toNat_natCast, hg, e0, Bool.false_eq_true, if_false, e1, e2, e3, e4, e5, e6, g0, g1, g2, rspan_is a b, rpoint_is c, Option.bind_some, hwr]
    cases hS : spanOK a b
    · have ho : oneRun [a, b, c] acc = none := by simp only [oneRun, hS, Bool.false_and, Bool.false_eq_true, if_false]
      rw [ho]
      simp only [Bool.false_eq_true, if_false, Bool.not_false, if_true, stepB]
    · cases hN : ptOK c
      · have ho : oneRun [a, b, c] acc = none := by simp only [oneRun, hN, Bool.and_false, Bool.false_eq_true, if_false]
        rw [ho]
        simp only [Bool.false_eq_true, if_false, Bool.not_true, if_true, show decide ((-1 : Int) < 0) = true from rfl, decide_true, stepB]
      · have hle := ptN_le hN
        have hz : decide ((ptN c : Int) < 0) = false := decide_eq_false (by omega)
        have hu : IntKind.u32.wrap (ptN c : Int) = ptN c := by rw [IntKind.wrap_u32]; omega
        simp only [if_true, Bool.not_true, Bool.false_eq_true, if_false, hz, hu]
        by_cases h0 : 0 < i
        · have c1 : decide ((i : Int) > 0) = true := decide_eq_true (by omega)
          have hwp : IntKind.i64.wrap ((i : Int) - 1) = ((i - 1 : Nat) : Int) := by rw [wrap_i64] <;> omega
          have c2 : decide ((0 : Int) ≤ ((i - 1 : Nat) : Int)) = true := decide_eq_true (by omega)
          have c3 : decide (((i - 1 : Nat) : Int) < (acc.length : Int)) = true := decide_eq_true (by omega)
          have c4 : decide (i - 1 < acc.length) = true := decide_eq_true (by omega)
          have hb := behind_get acc (fun e => e.2.1) ((0 : Int), (0 : Int), (0 : Int)) (ptN a : Int) i ha h0
          simp only [c1, if_true, hwp, c2, c3, Bool.and_self, Int.toNat_natCast, c4]
          cases hB : decide ((acc.getD (i - 1) ((0 : Int), (0 : Int), (0 : Int))).2.1 ≥ (ptN a : Int))
          · have ho : oneRun [a, b, c] acc = some ((ptN a : Int), (ptN b : Int), (ptN c : Int)) := by
              simp only [oneRun, hS, hN, hb]
              rw [hB]; rfl
            have hlen : decide ((acc.length + [((ptN a : Int), (ptN b : Int), (ptN c : Int))].length) * 12 ≤ 140737488355328) = true := decide_eq_true (by simp; omega)
            rw [ho]
            simp only [Bool.false_eq_true, if_false, hlen, if_true, stepB]
          · have ho : oneRun [a, b, c] acc = none := by
              simp only [oneRun, hS, hN, hb]
              rw [hB]; rfl
            rw [ho]
            simp only [if_true, stepB]
        · have c1 : decide ((i : Int) > 0) = false := decide_eq_false (by omega)
          have hnil : acc = [] := nil_of_len (by omega)
          subst hnil
          have ho : oneRun [a, b, c] [] = some ((ptN a : Int), (ptN b : Int), (ptN c : Int)) := by
            simp only [oneRun, hS, hN]
            rfl
          rw [ho]
          simp only [c1, Bool.false_eq_true, if_false]
          rfl
  · have e0 : (((w.length : Nat) : Int) != 3) = true := by simp; omega
    have ho : oneRun w acc = none := oneRun_ne acc h3
    rw [ho]
    simp only [ref07_Runs_b4, d0, d1, d2, Bool.and_self, if_true, Int.toNat_natCast, hg, e0, hwr, stepB]
theorem rRuns_is (s : ByteArray) (hs : s.size ≤ 1000000) : ref07_Runs s = some (resB (readR oneRun (linesOf s) [] 0)) := by
  unfold ref07_Runs
  rw [rlines_is s hs]
  simp only [Option.bind_some]
  have h1 := lines_len s hs
  have h2 := lines_word s hs
  generalize linesOf s = L at *
  have key := readB_go ref07_Runs_b4 oneRun L (fun acc => by simp [ref07_Runs_b4]) (rRuns_step L h1 h2) L.length 0 [] (by omega) rfl
  rw [show ((0 : Nat) : Int) = 0 from rfl, List.drop_zero] at key
  rw [key]
  simp only [Option.bind_some]
  cases readR oneRun L [] 0 <;> rfl
end Go.Pc

/- The document's charts of sets, ranges and of what points become: pure. -/
set_option linter.unusedVariables false
set_option linter.unusedSimpArgs false
set_option maxRecDepth 100000
namespace Go.Pc
open Go Go.Sx Go.Tx

theorem rcaps_is (s : ByteArray) (l m : Nat) (hs : s.size ≤ 9223372036854775806) : ref07_all s 65 90 (l : Int) (m : Int) = some (decide (l ≤ s.size) && decide (s.size ≤ m) && allIn capsB s) := by
  have h := rall_is s 65 90 l m hs
  have h' : ref07_all s 65 90 (l : Int) (m : Int) = _ := h
  rw [h', ← caps_rng, Bool.and_assoc, Bool.and_comm]
theorem rsmalls_is (s : ByteArray) (l m : Nat) (hs : s.size ≤ 9223372036854775806) : ref07_all s 97 122 (l : Int) (m : Int) = some (decide (l ≤ s.size) && decide (s.size ≤ m) && allIn smallsB s) := by
  have h := rall_is s 97 122 l m hs
  have h' : ref07_all s 97 122 (l : Int) (m : Int) = _ := h
  rw [h', ← smalls_rng, Bool.and_assoc, Bool.and_comm]

theorem rSets_step (L : List (List ByteArray)) (hLl : L.length ≤ 1000001) (hLw : ∀ w ∈ L, w.length ≤ 1000001 ∧ ∀ x ∈ w, x.size ≤ 1000000) (i : Nat) (acc : List (ByteArray × Int × Int)) (w : List ByteArray) (hw : L[i]? = some w) (ha : acc.length = i) (hi : i < L.length) :
    ref07_Sets_b4 ((i : Int), L, acc) = some (stepB L i acc (oneNamed w acc)) := by
  have hm : w ∈ L := List.mem_of_getElem? hw
  have d0 : decide ((i : Int) < (L.length : Int)) = true := decide_eq_true (by omega)
  have d1 : decide ((0 : Int) ≤ (i : Int)) = true := decide_eq_true (by omega)
  have d2 : decide (i < L.length) = true := decide_eq_true hi
  have hg : L.getD i [] = w := by rw [List.getD_eq_getElem?_getD, hw]; rfl
  have hwr : IntKind.i64.wrap ((i : Int) + 1) = ((i + 1 : Nat) : Int) := by rw [wrap_i64] <;> omega
  by_cases h3 : w.length = 3
  · obtain ⟨a, b, c, rfl⟩ := three h3
    have hasz := (hLw _ hm).2 a (by simp)
    have e0 : ((([a, b, c].length : Nat) : Int) != 3) = false := rfl
    have e1 : decide ((0 : Int) < (([a, b, c].length : Nat) : Int)) = true := rfl
    have e2 : decide (0 < [a, b, c].length) = true := rfl
    have e3 : decide ((1 : Int) < (([a, b, c].length : Nat) : Int)) = true := rfl
    have e4 : decide (1 < [a, b, c].length) = true := rfl
    have e5 : decide ((2 : Int) < (([a, b, c].length : Nat) : Int)) = true := rfl
    have e6 : decide (2 < [a, b, c].length) = true := rfl
    have g0 : [a, b, c].getD 0 ByteArray.empty = a := rfl
    have g1 : [a, b, c].getD 1 ByteArray.empty = b := rfl
    have g2 : [a, b, c].getD 2 ByteArray.empty = c := rfl
    have hall : ref07_all a 65 90 1 10 = some (decide (1 ≤ a.size) && decide (a.size ≤ 10) && allIn capsB a) := rcaps_is a 1 10 (by omega)
    have hlen : ∀ x : ByteArray × Int × Int, decide ((acc.length + [x].length) * 24 ≤ 140737488355328) = true := fun x => decide_eq_true (by simp; omega)
    simp only [ref07_Sets_b4, d0, d1, d2, Bool.and_self, if_true, Int.toNat_natCast, hg, e0, Bool.false_eq_true, if_false, e1, e2, e3, e4, e5, e6, g0, g1, g2, rspan_is b c, hall, Option.bind_some, hwr, hlen]
    cases hM : (decide (1 ≤ a.size) && decide (a.size ≤ 10) && allIn capsB a)
    · have ho : oneNamed [a, b, c] acc = none := by simp only [oneNamed, hM, Bool.false_and, Bool.false_eq_true, if_false]
      rw [ho]; rfl
    · cases hS : spanOK b c
      · have ho : oneNamed [a, b, c] acc = none := by simp only [oneNamed, hM, hS, Bool.and_false, Bool.false_eq_true, if_false]
        rw [ho]; rfl
      · have ho : oneNamed [a, b, c] acc = some (a, (ptN b : Int), (ptN c : Int)) := by simp only [oneNamed, hM, hS, Bool.and_self, if_true]
        rw [ho]; rfl
  · have e0 : (((w.length : Nat) : Int) != 3) = true := by simp; omega
    have ho : oneNamed w acc = none := oneNamed_ne acc h3
    rw [ho]
    simp only [ref07_Sets_b4, d0, d1, d2, Bool.and_self, if_true, Int.toNat_natCast, hg, e0, hwr, stepB]
theorem rSets_is (s : ByteArray) (hs : s.size ≤ 1000000) : ref07_Sets s = some (resB (readR oneNamed (linesOf s) [] 0)) := by
  unfold ref07_Sets
  rw [rlines_is s hs]
  simp only [Option.bind_some]
  have h1 := lines_len s hs
  have h2 := lines_word s hs
  generalize linesOf s = L at *
  have key := readB_go ref07_Sets_b4 oneNamed L (fun acc => by simp [ref07_Sets_b4]) (rSets_step L h1 h2) L.length 0 [] (by omega) rfl
  rw [show ((0 : Nat) : Int) = 0 from rfl, List.drop_zero] at key
  rw [key]
  simp only [Option.bind_some]
  cases readR oneNamed L [] 0 <;> rfl

/-! the other order of ends -/
def outB2 {T : Type} (r : List T ⊕ Nat) : List T ⊕ Int := match r with
  | .inl l => .inl l
  | .inr k => .inr (k : Int)
def stepB2 {T : Type} (L : List (List ByteArray)) (i : Nat) (acc : List T) : Option T → (Int × List (List ByteArray) × List T) ⊕ (List T ⊕ Int)
  | none => .inr (.inr ((i + 1 : Nat) : Int))
  | some x => .inl (((i + 1 : Nat) : Int), L, acc ++ [x])
theorem readB2_go {T : Type} (b : Int × List (List ByteArray) × List T → Option ((Int × List (List ByteArray) × List T) ⊕ (List T ⊕ Int))) (one : List ByteArray → List T → Option T) (L : List (List ByteArray))
    (hend : ∀ acc, b ((L.length : Int), L, acc) = some (.inr (.inl acc)))
    (hstep : ∀ (i : Nat) (acc : List T) (w : List ByteArray), L[i]? = some w → acc.length = i → i < L.length → b ((i : Int), L, acc) = some (stepB2 L i acc (one w acc))) :
    ∀ (n i : Nat) (acc : List T), n + i = L.length → acc.length = i → runLoop b ((i : Int), L, acc) = some (outB2 (readR one (L.drop i) acc i)) := by
  intro n
  induction n with
  | zero =>
    intro i acc h1 h2
    have : i = L.length := by omega
    subst this
    rw [runLoop_done (hend acc), List.drop_length]; rfl
  | succ n ih =>
    intro i acc h1 h2
    have hi : i < L.length := by omega
    have hs := hstep i acc L[i] (List.getElem?_eq_getElem hi) h2 hi
    rw [List.drop_eq_getElem_cons hi]
    unfold readR
    cases ho : one L[i] acc with
    | none => rw [ho] at hs; rw [runLoop_done hs]; rfl
    | some x => rw [ho] at hs; rw [runLoop_step hs]; exact ih (i + 1) (acc ++ [x]) (by omega) (by simp [h2])

/-! texts of one sign -/
theorem isB_iff (s : ByteArray) (t : List UInt8) : isB s t = List.beq s.data.toList t := by
  unfold isB
  rw [ByteArray.toList_eq, ByteArray.toList_eq]
theorem oneOf (s : ByteArray) (B : List UInt8) : (decide (1 ≤ s.size) && decide (s.size ≤ 1) && s.data.toList.all (fun b => B.contains b)) = B.any (fun x => isB s [x]) := by
  have hsz : s.data.toList.length = s.size := Array.length_toList
  have h : ∀ x, isB s [x] = List.beq s.data.toList [x] := fun x => isB_iff s [x]
  simp only [h, ← hsz]
  cases s.data.toList with
  | nil =>
    have : ∀ x : UInt8, List.beq [] [x] = false := fun x => rfl
    simp [this]
  | cons y r =>
    cases r with
    | nil =>
      have h2 : ∀ x : UInt8, List.beq [y] [x] = (y == x) := fun x => by show ((y == x) && true) = _; rw [Bool.and_true]
      simp only [h2]
      show (true && true && (B.contains y && true)) = B.any (fun x => y == x)
      rw [List.contains_eq_any_beq]
      simp
    | cons z r =>
      have h2 : ∀ x : UInt8, List.beq (y :: z :: r) [x] = false := fun x => by show ((y == x) && false) = _; rw [Bool.and_false]
      simp [h2]
theorem joins_is (e : ByteArray) : (decide (1 ≤ e.size) && decide (e.size ≤ 1) && allIn joinsB e) = (isB e [85] || (isB e [68] || (isB e [82] || (isB e [76] || (isB e [67] || isB e [84]))))) := by
  have h := oneOf e joinsB.data.toList
  unfold allIn
  rw [h]
  simp [joinsB]
theorem signs_is (e : ByteArray) : (decide (1 ≤ e.size) && decide (e.size ≤ 1) && allIn signsB e) = (isB e [61] || (isB e [33] || isB e [126])) := by
  have h := oneOf e signsB.data.toList
  unfold allIn
  rw [h]
  simp [signsB]

theorem rRanges_c12 (i : Nat) (acc : List (Int × Int × ByteArray × ByteArray × ByteArray × Bool)) (L : List (List ByteArray)) (a b c d e f : ByteArray) (h0 h1 : Int) (ha : acc.length = i) (hi : i ≤ 1000001) :
    ref07_Ranges_c12 ((i : Int), acc, L, [a, b, c, d, e, f], h0, h1) = some (if (isB e [85] || (isB e [68] || (isB e [82] || (isB e [76] || (isB e [67] || isB e [84]))))) && newOK f then .inr ((i : Int), acc ++ [(h0, h1, c, d, e, isB f [110, 101, 119])], L) else .inl ((i + 1 : Nat) : Int)) := by
  generalize hW : [a, b, c, d, e, f] = W
  have hWl : W.length = 6 := by rw [← hW]; rfl
  have g2 : W.getD 2 ByteArray.empty = c := by rw [← hW]; rfl
  have g3 : W.getD 3 ByteArray.empty = d := by rw [← hW]; rfl
  have g4 : W.getD 4 ByteArray.empty = e := by rw [← hW]; rfl
  have g5 : W.getD 5 ByteArray.empty = f := by rw [← hW]; rfl
  have e1 : decide ((2 : Int) < ((W.length : Nat) : Int)) = true := decide_eq_true (by omega)
  have e2 : decide (2 < W.length) = true := decide_eq_true (by omega)
  have e3 : decide ((3 : Int) < ((W.length : Nat) : Int)) = true := decide_eq_true (by omega)
  have e4 : decide (3 < W.length) = true := decide_eq_true (by omega)
  have e5 : decide ((4 : Int) < ((W.length : Nat) : Int)) = true := decide_eq_true (by omega)
  have e6 : decide (4 < W.length) = true := decide_eq_true (by omega)
  have e7 : decide ((5 : Int) < ((W.length : Nat) : Int)) = true := decide_eq_true (by omega)
  have e8 : decide (5 < W.length) = true := decide_eq_true (by omega)
  have hwr : IntKind.i64.wrap ((i : Int) + 1) = ((i + 1 : Nat) : Int) := by rw [wrap_i64] <;> omega
  have h14 : ref07_Ranges_c14 ((i : Int), acc, L, W, h0, h1) = some ((i : Int), acc ++ [(h0, h1, c, d, e, isB f [110, 101, 119])], L) := by
    have hlen : ∀ x : Int × Int × ByteArray × ByteArray × ByteArray × Bool, decide ((acc.length + [x].length) * 64 ≤ 140737488355328) = true := fun x => decide_eq_true (by simp; omega)
    simp only [ref07_Ranges_c14, e1, e2, e3, e4, e5, e6, e7, e8, if_true, g2, g3, g4, g5, isB_eq, hlen]
  simp only [ref07_Ranges_c12, e5, e6, e7, e8, if_true, g4, g5, isB_eq, h14, Option.bind_some, hwr]
  rw [show newOK f = (isB f [111, 108, 100] || isB f [110, 101, 119]) from rfl]
  generalize isB e [85] = b1
  generalize isB e [68] = b2
  generalize isB e [82] = b3
  generalize isB e [76] = b4
  generalize isB e [67] = b5
  generalize isB e [84] = b6
  generalize isB f [111, 108, 100] = b7
  generalize isB f [110, 101, 119] = b8
  cases b1
  · cases b2
    · cases b3
      · cases b4
        · cases b5
          · cases b6 <;> cases b7 <;> cases b8 <;> rfl
          · cases b7 <;> cases b8 <;> rfl
        · cases b7 <;> cases b8 <;> rfl
      · cases b7 <;> cases b8 <;> rfl
    · cases b7 <;> cases b8 <;> rfl
  · cases b7 <;> cases b8 <;> rfl

set_option maxHeartbeats 4000000 in
theorem rRanges_c9 (i : Nat) (acc : List (Int × Int × ByteArray × ByteArray × ByteArray × Bool)) (L : List (List ByteArray)) (a b c d e f : ByteArray) (ha : acc.length = i) (hi : i ≤ 1000001) (hc : c.size ≤ 1000000) (hd : d.size ≤ 1000000) :
    ref07_Ranges_c9 ((i : Int), acc, L, [a, b, c, d, e, f]) = some (match oneRange [a, b, c, d, e, f] acc with
      | some x => .inr ((i : Int), acc ++ [x], L)
      | none => .inl ((i + 1 : Nat) : Int)) := by
  have h12 := rRanges_c12 i acc L a b c d e f (ptN a : Int) (ptN b : Int) ha hi
  have hOne : oneRange [a, b, c, d, e, f] acc = if (spanOK a b && behindI (acc.getLast?.map (fun e => e.2.1)) (ptN a)) && catOK c && (decide (1 ≤ d.size) && decide (d.size ≤ 3) && allIn capsB d) && (decide (1 ≤ e.size) && decide (e.size ≤ 1) && allIn joinsB e) && newOK f then some ((ptN a : Int), (ptN b : Int), c, d, e, isB f [110, 101, 119]) else none := rfl
  rw [joins_is] at hOne
  generalize hJ : (isB e [85] || (isB e [68] || (isB e [82] || (isB e [76] || (isB e [67] || isB e [84]))))) = J at h12 hOne
  generalize hW : [a, b, c, d, e, f] = W at *
  have hWl : W.length = 6 := by rw [← hW]; rfl
  have g0 : W.getD 0 ByteArray.empty = a := by rw [← hW]; rfl
  have g1 : W.getD 1 ByteArray.empty = b := by rw [← hW]; rfl
  have g2 : W.getD 2 ByteArray.empty = c := by rw [← hW]; rfl
  have g3 : W.getD 3 ByteArray.empty = d := by rw [← hW]; rfl
  have e1 : decide ((2 : Int) < ((W.length : Nat) : Int)) = true := decide_eq_true (by omega)
  have e2 : decide (2 < W.length) = true := decide_eq_true (by omega)
  have e3 : decide ((3 : Int) < ((W.length : Nat) : Int)) = true := decide_eq_true (by omega)
  have e4 : decide (3 < W.length) = true := decide_eq_true (by omega)
  have e5 : decide ((0 : Int) < ((W.length : Nat) : Int)) = true := decide_eq_true (by omega)
  have e6 : decide (0 < W.length) = true := decide_eq_true (by omega)
  have e7 : decide ((1 : Int) < ((W.length : Nat) : Int)) = true := decide_eq_true (by omega)
  have e8 : decide (1 < W.length) = true := decide_eq_true (by omega)
  have hwr : IntKind.i64.wrap ((i : Int) + 1) = ((i + 1 : Nat) : Int) := by rw [wrap_i64] <;> omega
  have hD : ref07_all d 65 90 1 3 = some (decide (1 ≤ d.size) && decide (d.size ≤ 3) && allIn capsB d) := rcaps_is d 1 3 (by omega)
  generalize hDg : (decide (1 ≤ d.size) && decide (d.size ≤ 3) && allIn capsB d) = DD at hD hOne
  generalize newOK f = NN at h12 hOne
  -- what stands behind the look at the line ahead
  have tail : spanOK a b = true → behindI (acc.getLast?.map (fun e => e.2.1)) (ptN a) = true →
      (if ((((c.size : Nat) : Int)) != 2) = true then (some (.inl ((i + 1 : Nat) : Int)) : Option (Int ⊕ (Int × List (Int × Int × ByteArray × ByteArray × ByteArray × Bool) × List (List ByteArray)))) else
        if decide ((1 : Int) ≤ ((c.size : Nat) : Int)) = true then
          (ref07_all (c.extract 0 1) 65 90 1 1).bind fun r1_0 => if (!r1_0) = true then some (.inl ((i + 1 : Nat) : Int)) else
            if decide ((1 : Int) ≤ ((c.size : Nat) : Int)) = true then
              (ref07_all (c.extract 1 c.size) 97 122 1 1).bind fun r2_0 => if (!r2_0) = true then some (.inl ((i + 1 : Nat) : Int)) else
                if (!DD) = true then some (.inl ((i + 1 : Nat) : Int)) else
                  (ref07_Ranges_c12 ((i : Int), acc, L, W, (ptN a : Int), (ptN b : Int))).bind fun r4_0 => match r4_0 with
                    | .inl r5_0 => some (.inl r5_0)
                    | .inr (r6_0, r6_1, r6_2) => some (.inr (r6_0, (r6_1, r6_2)))
            else none
        else none) = some (match oneRange W acc with
      | some x => .inr ((i : Int), acc ++ [x], L)
      | none => .inl ((i + 1 : Nat) : Int)) := by
    intro hS hB
    rw [hOne, h12, hS, hB]
    by_cases hc2 : c.size = 2
    · have c0 : ((((c.size : Nat) : Int)) != 2) = false := by rw [hc2]; rfl
      have c1 : decide ((1 : Int) ≤ ((c.size : Nat) : Int)) = true := decide_eq_true (by omega)
      have s1 : (c.extract 0 1).size = 1 := by rw [ByteArray.size_extract]; omega
      have s2 : (c.extract 1 c.size).size = 1 := by rw [ByteArray.size_extract]; omega
      have f1 : ref07_all (c.extract 0 1) 65 90 1 1 = some (allIn capsB (c.extract 0 1)) := by
        have h := rcaps_is (c.extract 0 1) 1 1 (by omega)
        rw [s1] at h
        have h' : ref07_all (c.extract 0 1) 65 90 1 1 = some (true && allIn capsB (c.extract 0 1)) := h
        rw [h', Bool.true_and]
      have f2 : ref07_all (c.extract 1 c.size) 97 122 1 1 = some (allIn smallsB (c.extract 1 c.size)) := by
        have h := rsmalls_is (c.extract 1 c.size) 1 1 (by omega)
        rw [s2] at h
        have h' : ref07_all (c.extract 1 c.size) 97 122 1 1 = some (true && allIn smallsB (c.extract 1 c.size)) := h
        rw [h', Bool.true_and]
      have hcat : catOK c = (allIn capsB (c.extract 0 1) && allIn smallsB (c.extract 1 c.size)) := by unfold catOK; rw [decide_eq_true hc2, Bool.true_and]
      rw [hcat]
      simp only [c0, Bool.false_eq_true, if_false, c1, if_true, f1, f2, Option.bind_some]
      generalize allIn capsB (c.extract 0 1) = x1
      generalize allIn smallsB (c.extract 1 c.size) = x2
      cases x1 <;> cases x2 <;> cases DD <;> cases J <;> cases NN <;> rfl
    · have c0 : ((((c.size : Nat) : Int)) != 2) = true := by simp; omega
      have hcat : catOK c = false := by unfold catOK; rw [decide_eq_false hc2]; rfl
      rw [hcat]
      simp only [c0, if_true]
      cases DD <;> cases J <;> cases NN <;> rfl
  simp only [ref07_Ranges_c9, e1, e2, e3, e4, e5, e6, e7, e8, if_true, g0, g1, g2, g3, rspan_is a b, hD, Option.bind_some, hwr]
  cases hS : spanOK a b
  · have ho : oneRange W acc = none := by rw [hOne, hS]; simp only [Bool.false_and, Bool.false_eq_true, if_false]
    rw [ho]
    simp only [Bool.false_eq_true, if_false, Bool.not_false, if_true]
  · simp only [if_true, Bool.not_true, Bool.false_eq_true, if_false]
    by_cases h0 : 0 < i
    · have c1 : decide ((i : Int) > 0) = true := decide_eq_true (by omega)
      have hwp : IntKind.i64.wrap ((i : Int) - 1) = ((i - 1 : Nat) : Int) := by rw [wrap_i64] <;> omega
      have c2 : decide ((0 : Int) ≤ ((i - 1 : Nat) : Int)) = true := decide_eq_true (by omega)
      have c3 : decide (((i - 1 : Nat) : Int) < (acc.length : Int)) = true := decide_eq_true (by omega)
      have c4 : decide (i - 1 < acc.length) = true := decide_eq_true (by omega)
      have hb := behind_get acc (fun e => e.2.1) ((0 : Int), ((0 : Int), (ByteArray.empty, (ByteArray.empty, (ByteArray.empty, false))))) (ptN a : Int) i ha h0
      simp only [c1, if_true, hwp, c2, c3, Bool.and_self, Int.toNat_natCast, c4]
      cases hB : decide ((acc.getD (i - 1) ((0 : Int), ((0 : Int), (ByteArray.empty, (ByteArray.empty, (ByteArray.empty, false)))))).2.1 ≥ (ptN a : Int))
      · rw [hB] at hb
        have hb' : behindI (acc.getLast?.map (fun e => e.2.1)) (ptN a) = true := hb
        have ht := tail hS hb'
        simp only [Bool.false_eq_true, if_false]
        exact ht
      · rw [hB] at hb
        have hb' : behindI (acc.getLast?.map (fun e => e.2.1)) (ptN a) = false := hb
        have ho : oneRange W acc = none := by rw [hOne, hS, hb']; simp only [Bool.and_false, Bool.false_and, Bool.false_eq_true, if_false]
        rw [ho]
        simp only [if_true]
    · have c1 : decide ((i : Int) > 0) = false := decide_eq_false (by omega)
      have hnil : acc = [] := nil_of_len (by omega)
      have hb' : behindI (acc.getLast?.map (fun e => e.2.1)) (ptN a) = true := by rw [hnil]; rfl
      have ht := tail hS hb'
      simp only [c1, Bool.false_eq_true, if_false]
      exact ht

theorem rRanges_step (L : List (List ByteArray)) (hLl : L.length ≤ 1000001) (hLw : ∀ w ∈ L, w.length ≤ 1000001 ∧ ∀ x ∈ w, x.size ≤ 1000000) (i : Nat) (acc : List (Int × Int × ByteArray × ByteArray × ByteArray × Bool)) (w : List ByteArray) (hw : L[i]? = some w) (ha : acc.length = i) (hi : i < L.length) :
    ref07_Ranges_b4 ((i : Int), L, acc) = some (stepB2 L i acc (oneRange w acc)) := by
  have hm : w ∈ L := List.mem_of_getElem? hw
  have d0 : decide ((i : Int) < (L.length : Int)) = true := decide_eq_true (by omega)
  have d1 : decide ((0 : Int) ≤ (i : Int)) = true := decide_eq_true (by omega)
  have d2 : decide (i < L.length) = true := decide_eq_true hi
  have hg : L.getD i [] = w := by rw [List.getD_eq_getElem?_getD, hw]; rfl
  have hwr : IntKind.i64.wrap ((i : Int) + 1) = ((i + 1 : Nat) : Int) := by rw [wrap_i64] <;> omega
  by_cases h6 : w.length = 6
  · obtain ⟨a, b, c, d, e, f, rfl⟩ := six h6
    have h9 := rRanges_c9 i acc L a b c d e f ha (by omega) ((hLw _ hm).2 c (by simp)) ((hLw _ hm).2 d (by simp))
    have e0 : ((([a, b, c, d, e, f].length : Nat) : Int) != 6) = false := rfl
    simp only [ref07_Ranges_b4, ref07_Ranges_c6, d0, d1, d2, Bool.and_self, if_true, Int.toNat_natCast, hg, e0, Bool.false_eq_true, if_false, h9, Option.bind_some]
    cases oneRange [a, b, c, d, e, f] acc with
    | none => rfl
    | some x => simp only [ref07_Ranges_c5, Option.bind_some, hwr, stepB2]
  · have e0 : (((w.length : Nat) : Int) != 6) = true := by simp; omega
    have ho : oneRange w acc = none := oneRange_ne acc h6
    rw [ho]
    simp only [ref07_Ranges_b4, ref07_Ranges_c6, d0, d1, d2, Bool.and_self, if_true, Int.toNat_natCast, hg, e0, hwr, Option.bind_some, stepB2]
theorem rRanges_is (s : ByteArray) (hs : s.size ≤ 1000000) : ref07_Ranges s = some (resB (readR oneRange (linesOf s) [] 0)) := by
  unfold ref07_Ranges
  rw [rlines_is s hs]
  simp only [Option.bind_some]
  have h1 := lines_len s hs
  have h2 := lines_word s hs
  generalize linesOf s = L at *
  have key := readB2_go ref07_Ranges_b4 oneRange L (fun acc => by simp [ref07_Ranges_b4]) (rRanges_step L h1 h2) L.length 0 [] (by omega) rfl
  rw [show ((0 : Nat) : Int) = 0 from rfl, List.drop_zero] at key
  rw [key]
  simp only [Option.bind_some]
  cases readR oneRange L [] 0 <;> rfl
end Go.Pc

/- The document's chart of what points become: pure. -/
set_option linter.unusedVariables false
set_option linter.unusedSimpArgs false
set_option maxRecDepth 100000
namespace Go.Pc
open Go Go.Sx Go.Tx

theorem rdec_inner (i : Nat) (acc : List (Int × List Int × Bool × Bool)) (L : List (List ByteArray)) (W : List ByteArray) (hW : W.length ≤ 1000001) (hi : i ≤ 1000001) (h0 : Int) (h2 h3 : Bool) :
    ∀ (n k : Nat) (out : List Int), n + k = W.length → out.length ≤ k → runLoop ref07_Decomps_b11 ((i : Int), (k : Int), acc, L, W, h0, h2, h3, out) = some (if ptsOK (W.drop k) then .inl ((i : Int), acc, L, h0, h2, h3, out ++ (W.drop k).map (fun x => (ptN x : Int))) else .inr ((i + 1 : Nat) : Int)) := by
  have hwi : IntKind.i64.wrap ((i : Int) + 1) = ((i + 1 : Nat) : Int) := by rw [wrap_i64] <;> omega
  intro n
  induction n with
  | zero =>
    intro k out h1 ho
    have : k = W.length := by omega
    subst this
    have d0 : decide ((W.length : Int) < (W.length : Int)) = false := decide_eq_false (by omega)
    rw [runLoop_done (x := Sum.inl ((i : Int), acc, L, h0, h2, h3, out)) (by simp only [ref07_Decomps_b11, d0, Bool.false_eq_true, if_false]), List.drop_length]
    simp [ptsOK]
  | succ n ih =>
    intro k out h1 ho
    have hk : k < W.length := by omega
    have d0 : decide ((k : Int) < (W.length : Int)) = true := decide_eq_true (by omega)
    have d1 : decide ((0 : Int) ≤ (k : Int)) = true := decide_eq_true (by omega)
    have d2 : decide (k < W.length) = true := decide_eq_true hk
    have hg : W.getD k ByteArray.empty = W[k] := by rw [List.getD_eq_getElem?_getD, List.getElem?_eq_getElem hk]; rfl
    have hw : IntKind.i64.wrap ((k : Int) + 1) = ((k + 1 : Nat) : Int) := by rw [wrap_i64] <;> omega
    have hp := rpoint_is W[k]
    rw [List.drop_eq_getElem_cons hk]
    cases hP : ptOK W[k]
    · rw [hP] at hp
      simp only [Bool.false_eq_true, if_false] at hp
      have e : ptsOK (W[k] :: W.drop (k + 1)) = false := by
        show (ptOK W[k] && _) = false
        rw [hP]; rfl
      rw [e, runLoop_done (x := Sum.inr ((i + 1 : Nat) : Int)) (by
        simp only [ref07_Decomps_b11, ref07_Decomps_c13, d0, d1, d2, Bool.and_self, if_true, Int.toNat_natCast, hg, hp, Option.bind_some, show decide ((-1 : Int) < 0) = true from rfl, hwi])]
      rfl
    · rw [hP] at hp
      simp only [if_true] at hp
      have hle := ptN_le hP
      have c0 : decide ((ptN W[k] : Int) < 0) = false := decide_eq_false (by omega)
      have hu : IntKind.u32.wrap (ptN W[k] : Int) = ptN W[k] := by rw [IntKind.wrap_u32]; omega
      have hlen : decide ((out.length + [(ptN W[k] : Int)].length) * 4 ≤ 140737488355328) = true := decide_eq_true (by simp; omega)
      have h15 : ref07_Decomps_c15 ((i : Int), (k : Int), acc, L, W, h0, h2, h3, out) = some ((i : Int), (k : Int), acc, L, W, h0, h2, h3, out ++ [(ptN W[k] : Int)]) := by
        simp only [ref07_Decomps_c15, d1, d0, d2, Bool.and_self, if_true, Int.toNat_natCast, hg, hp, Option.bind_some, hu, hlen]
      have e : ptsOK (W[k] :: W.drop (k + 1)) = ptsOK (W.drop (k + 1)) := by
        show (ptOK W[k] && ptsOK _) = _
        rw [hP, Bool.true_and]
      rw [e, runLoop_step (v' := ((i : Int), ((k + 1 : Nat) : Int), acc, L, W, h0, h2, h3, out ++ [(ptN W[k] : Int)])) (by
        simp only [ref07_Decomps_b11, ref07_Decomps_c13, d0, d1, d2, Bool.and_self, if_true, Int.toNat_natCast, hg, hp, Option.bind_some, c0, Bool.false_eq_true, if_false, h15, ref07_Decomps_c12, hw])]
      rw [ih (k + 1) (out ++ [(ptN W[k] : Int)]) (by omega) (by simp; omega), List.map_cons, List.append_assoc]
      rfl

theorem rdec_c9 (i : Nat) (acc : List (Int × List Int × Bool × Bool)) (L : List (List ByteArray)) (a b c : ByteArray) (r : List ByteArray) (hW : (a :: b :: c :: r).length ≤ 5) (hi : i ≤ 1000001) (ha : acc.length = i) (hA : ptOK a = true)
    (hS : (isB b [61] || (isB b [33] || isB b [126])) = true) :
    ref07_Decomps_c9 ((i : Int), acc, L, a :: b :: c :: r) = some (match oneDecomp (a :: b :: c :: r) acc with
      | some x => .inr ((i : Int), acc ++ [x], L)
      | none => .inl ((i + 1 : Nat) : Int)) := by
  have hOne : oneDecomp (a :: b :: c :: r) acc = if (decide (1 ≤ b.size) && decide (b.size ≤ 1) && allIn signsB b) && ptOK a && (ptsOK (c :: r) && decide ((c :: r).length ≤ 3)) && aheadI (acc.getLast?.map (fun e => e.1)) (ptN a) then
      some ((ptN a : Int), (c :: r).map (fun x => (ptN x : Int)), isB b [126], isB b [33]) else none := rfl
  have hl3 : decide ((c :: r).length ≤ 3) = true := decide_eq_true (by simp at hW ⊢; omega)
  rw [signs_is, hS, hA, hl3] at hOne
  simp only [Bool.true_and, Bool.and_true] at hOne
  have hp := rpoint_is a
  rw [hA] at hp
  simp only [if_true] at hp
  have hle := ptN_le hA
  have hu : IntKind.u32.wrap (ptN a : Int) = ptN a := by rw [IntKind.wrap_u32]; omega
  have inner := rdec_inner i acc L (a :: b :: c :: r) (by omega) hi (ptN a : Int) (isB b [126]) (isB b [33]) ((a :: b :: c :: r).length - 2) 2 [] (by simp) (by simp)
  have hd : (a :: b :: c :: r).drop 2 = c :: r := rfl
  rw [hd, List.nil_append] at inner
  have inner' : runLoop ref07_Decomps_b11 ((i : Int), (2 : Int), acc, L, a :: b :: c :: r, (ptN a : Int), isB b [126], isB b [33], []) = _ := inner
  have e5 : decide ((0 : Int) < (((a :: b :: c :: r).length : Nat) : Int)) = true := decide_eq_true (by simp only [List.length_cons]; omega)
  have e6 : decide (0 < (a :: b :: c :: r).length) = true := decide_eq_true (by simp only [List.length_cons]; omega)
  have e7 : decide ((1 : Int) < (((a :: b :: c :: r).length : Nat) : Int)) = true := decide_eq_true (by simp only [List.length_cons]; omega)
  have e8 : decide (1 < (a :: b :: c :: r).length) = true := decide_eq_true (by simp only [List.length_cons]; omega)
  have g0 : (a :: b :: c :: r).getD 0 ByteArray.empty = a := rfl
  have g1 : (a :: b :: c :: r).getD 1 ByteArray.empty = b := rfl
  have hwr : IntKind.i64.wrap ((i : Int) + 1) = ((i + 1 : Nat) : Int) := by rw [wrap_i64] <;> omega
  have hlen : ∀ x : Int × List Int × Bool × Bool, decide ((acc.length + [x].length) * 40 ≤ 140737488355328) = true := fun x => decide_eq_true (by simp; omega)
  simp only [ref07_Decomps_c9, e5, e6, e7, e8, if_true, g0, g1, hp, Option.bind_some, isB_eq, hu, inner']
  rw [hOne]
  cases hP : ptsOK (c :: r)
  · rfl
  · simp only [if_true, Bool.true_and]
    by_cases h0 : 0 < i
    · have c1 : decide ((i : Int) > 0) = true := decide_eq_true (by omega)
      have hwp : IntKind.i64.wrap ((i : Int) - 1) = ((i - 1 : Nat) : Int) := by rw [wrap_i64] <;> omega
      have c2 : decide ((0 : Int) ≤ ((i - 1 : Nat) : Int)) = true := decide_eq_true (by omega)
      have c3 : decide (((i - 1 : Nat) : Int) < (acc.length : Int)) = true := decide_eq_true (by omega)
      have c4 : decide (i - 1 < acc.length) = true := decide_eq_true (by omega)
      have hb : aheadI (acc.getLast?.map (fun e => e.1)) (ptN a : Int) = !decide ((acc.getD (i - 1) ((0 : Int), ([], (false, false)))).1 ≥ (ptN a : Int)) := by
        rcases last_cases acc with rfl | ⟨j, e, rfl⟩
        · simp at ha; omega
        · have hj : i - 1 = j.length := by rw [← ha]; simp
          rw [hj, getD_lst, List.getLast?_concat]
          rfl
      simp only [c1, if_true, hwp, c2, c3, Bool.and_self, Int.toNat_natCast, c4]
      rw [hb]
      cases hB : decide ((acc.getD (i - 1) ((0 : Int), ([], (false, false)))).1 ≥ (ptN a : Int))
      · simp only [Bool.false_eq_true, if_false, ref07_Decomps_c18, hlen, if_true, Option.bind_some, Bool.not_false]
      · simp only [if_true, Bool.not_true, Bool.false_eq_true, if_false, hwr]
    · have c1 : decide ((i : Int) > 0) = false := decide_eq_false (by omega)
      have hnil : acc = [] := nil_of_len (by omega)
      subst hnil
      simp only [c1, Bool.false_eq_true, if_false, ref07_Decomps_c18, hlen, if_true, Option.bind_some, List.getLast?_nil, Option.map_none, aheadI]

theorem rDecomps_step (L : List (List ByteArray)) (hLl : L.length ≤ 1000001) (i : Nat) (acc : List (Int × List Int × Bool × Bool)) (w : List ByteArray) (hw : L[i]? = some w) (ha : acc.length = i) (hi : i < L.length) :
    ref07_Decomps_b4 ((i : Int), L, acc) = some (stepB2 L i acc (oneDecomp w acc)) := by
  have d0 : decide ((i : Int) < (L.length : Int)) = true := decide_eq_true (by omega)
  have d1 : decide ((0 : Int) ≤ (i : Int)) = true := decide_eq_true (by omega)
  have d2 : decide (i < L.length) = true := decide_eq_true hi
  have hg : L.getD i [] = w := by rw [List.getD_eq_getElem?_getD, hw]; rfl
  have hwr : IntKind.i64.wrap ((i : Int) + 1) = ((i + 1 : Nat) : Int) := by rw [wrap_i64] <;> omega
  by_cases h3 : w.length < 3
  · have e0 : decide (((w.length : Nat) : Int) < 3) = true := decide_eq_true (by omega)
    rw [oneDecomp_ne acc h3]
    simp only [ref07_Decomps_b4, ref07_Decomps_c6, d0, d1, d2, Bool.and_self, if_true, Int.toNat_natCast, hg, e0, hwr, Option.bind_some, stepB2]
  · have e0 : decide (((w.length : Nat) : Int) < 3) = false := decide_eq_false (by omega)
    obtain ⟨a, b, c, r, rfl⟩ := more3 h3
    have hOne : oneDecomp (a :: b :: c :: r) acc = if (decide (1 ≤ b.size) && decide (b.size ≤ 1) && allIn signsB b) && ptOK a && (ptsOK (c :: r) && decide ((c :: r).length ≤ 3)) && aheadI (acc.getLast?.map (fun e => e.1)) (ptN a) then
      some ((ptN a : Int), (c :: r).map (fun x => (ptN x : Int)), isB b [126], isB b [33]) else none := rfl
    rw [signs_is] at hOne
    have g0 : (a :: b :: c :: r).getD 0 ByteArray.empty = a := rfl
    have g1 : (a :: b :: c :: r).getD 1 ByteArray.empty = b := rfl
    have e5 : decide ((0 : Int) < (((a :: b :: c :: r).length : Nat) : Int)) = true := decide_eq_true (by simp only [List.length_cons]; omega)
    have e6 : decide (0 < (a :: b :: c :: r).length) = true := decide_eq_true (by simp only [List.length_cons]; omega)
    have e7 : decide ((1 : Int) < (((a :: b :: c :: r).length : Nat) : Int)) = true := decide_eq_true (by simp only [List.length_cons]; omega)
    have e8 : decide (1 < (a :: b :: c :: r).length) = true := decide_eq_true (by simp only [List.length_cons]; omega)
    by_cases h5 : (a :: b :: c :: r).length > 5
    · have e1 : decide ((((a :: b :: c :: r).length : Nat) : Int) > 5) = true := decide_eq_true (by omega)
      have ho : oneDecomp (a :: b :: c :: r) acc = none := by
        have : decide ((c :: r).length ≤ 3) = false := decide_eq_false (by simp only [List.length_cons] at h5 ⊢; omega)
        rw [hOne, this]
        simp only [Bool.and_false, Bool.false_and, Bool.false_eq_true, if_false]
      rw [ho]
      simp only [ref07_Decomps_b4, ref07_Decomps_c6, d0, d1, d2, Bool.and_self, if_true, Int.toNat_natCast, hg, e0, Bool.false_eq_true, if_false, e1, hwr, Option.bind_some, stepB2]
    · have e1 : decide ((((a :: b :: c :: r).length : Nat) : Int) > 5) = false := decide_eq_false (by omega)
      have hp := rpoint_is a
      simp only [ref07_Decomps_b4, ref07_Decomps_c6, d0, d1, d2, Bool.and_self, if_true, Int.toNat_natCast, hg, e0, Bool.false_eq_true, if_false, e1, e5, e6, e7, e8, g0, g1, isB_eq, hp, Option.bind_some, hwr]
      cases hA : ptOK a
      · have ho : oneDecomp (a :: b :: c :: r) acc = none := by
          rw [hOne, hA]
          simp only [Bool.and_false, Bool.false_and, Bool.false_eq_true, if_false]
        rw [ho]
        have cm : decide ((-1 : Int) < 0) = true := rfl
        simp only [Bool.false_eq_true, if_false, cm, if_true]
        cases isB b [61]
        · cases isB b [33]
          · cases isB b [126] <;> rfl
          · rfl
        · rfl
      · have hle := ptN_le hA
        have c0 : decide ((ptN a : Int) < 0) = false := decide_eq_false (by omega)
        simp only [if_true, c0, Bool.false_eq_true, if_false]
        cases hS : (isB b [61] || (isB b [33] || isB b [126]))
        · have ho : oneDecomp (a :: b :: c :: r) acc = none := by
            rw [hOne, hS]
            simp only [Bool.false_and, Bool.false_eq_true, if_false]
          rw [ho]
          simp only [Bool.or_eq_false_iff] at hS
          obtain ⟨s1, s2, s3⟩ := hS
          rw [s1, s2, s3]
          rfl
        · have h9 := rdec_c9 i acc L a b c r (by omega) (by omega) ha hA hS
          rw [h9]
          have fin : ∀ x : Option (Int × List Int × Bool × Bool), ((some (match x with
              | some x => Sum.inr ((i : Int), acc ++ [x], L)
              | none => Sum.inl ((i + 1 : Nat) : Int))).bind fun r1_0 : Int ⊕ (Int × List (Int × List Int × Bool × Bool) × List (List ByteArray)) => match r1_0 with
              | .inl r2_0 => some (.inl r2_0)
              | .inr (r3_0, r3_1, r3_2) => (ref07_Decomps_c5 (r3_0, r3_1, r3_2)).bind fun (r4_0, r4_1, r4_2) => some (.inr (r4_0, (r4_1, r4_2)))) = some (match x with
              | some x => Sum.inr (((i + 1 : Nat) : Int), acc ++ [x], L)
              | none => Sum.inl ((i + 1 : Nat) : Int)) := by
            intro x
            cases x with
            | none => rfl
            | some x => simp only [Option.bind_some, ref07_Decomps_c5, hwr]
          have h3c : ∀ (b1 b2 b3 : Bool), (b1 || (b2 || b3)) = true → ∀ (A B : Option (Int ⊕ (Int × List (Int × List Int × Bool × Bool) × List (List ByteArray)))), (if (!b1) = true then if (!b2) = true then if (!b3) = true then B else A else A else A) = A := by
            intro b1 b2 b3 h A B
            cases b1
            · cases b2
              · cases b3
                · cases h
                · rfl
              · rfl
            · rfl
          rw [h3c _ _ _ hS]
          have hf := fin (oneDecomp (a :: b :: c :: r) acc)
          refine (congrArg (fun o => Option.bind o _) hf).trans ?_
          cases oneDecomp (a :: b :: c :: r) acc <;> rfl
theorem rDecomps_is (s : ByteArray) (hs : s.size ≤ 1000000) : ref07_Decomps s = some (resB (readR oneDecomp (linesOf s) [] 0)) := by
  unfold ref07_Decomps
  rw [rlines_is s hs]
  simp only [Option.bind_some]
  have h1 := lines_len s hs
  generalize linesOf s = L at *
  have key := readB2_go ref07_Decomps_b4 oneDecomp L (fun acc => by simp [ref07_Decomps_b4]) (rDecomps_step L h1) L.length 0 [] (by omega) rfl
  rw [show ((0 : Nat) : Int) = 0 from rfl, List.drop_zero] at key
  rw [key]
  simp only [Option.bind_some]
  cases readR oneDecomp L [] 0 <;> rfl
end Go.Pc

/- What a point becomes in full, by the program: pure. -/
set_option linter.unusedVariables false
set_option linter.unusedSimpArgs false
set_option maxRecDepth 100000
namespace Go.Pc
open Go Go.Sx Go.Tx

abbrev Dc := Int × List Int × Bool × Bool
def zD : Dc := (0, [], false, false)
def Rise (D : List Dc) : Prop := D.Pairwise (fun a b => a.1 < b.1)
def hit (p : Int) (c : Bool) (d : Dc) : Bool := d.1 == p && (c || !d.2.2.1)
def fnd (D : List Dc) (p : Int) (c : Bool) : Option Dc := D.find? (hit p c)

theorem rise_lt {D : List Dc} (h : Rise D) {i j : Nat} (hij : i < j) (hj : j < D.length) : (D.getD i zD).1 < (D.getD j zD).1 := by
  have := List.pairwise_iff_getElem.1 h i j (by omega) hj hij
  simpa [List.getD, List.getElem?_eq_getElem (show i < D.length by omega), List.getElem?_eq_getElem hj] using this

theorem cmp_is (x y : Int) : cmp_Compare_uint32 x y = some (if x < y then -1 else if x > y then 1 else 0) := by
  unfold cmp_Compare_uint32 cmp_isNaN_uint32
  simp only [bne_self_eq_false, Option.bind_some, Bool.false_eq_true, if_false]
  by_cases h : x < y
  · simp [h]
  · by_cases h2 : x > y
    · simp [h, h2]
    · simp [h, h2]
theorem line1_is (d : Dc) (p : Int) : tables_Tables_line_1 d.1 d.2.2.1 d.2.2.2 p d.2.1 = some (if d.1 < p then -1 else if d.1 > p then 1 else 0, d.2.1) := by
  unfold tables_Tables_line_1
  rw [cmp_is]; rfl
theorem mid_is (i j : Int) (h0 : 0 ≤ i) (h1 : i < j) (h2 : j ≤ 1000000) : IntKind.i64.wrap (Int.fdiv (IntKind.u64.wrap (IntKind.i64.wrap (i + j))) 2) = (i + j) / 2 := by
  rw [wrap_i64 (i + j) (by omega) (by omega), IntKind.wrap_u64, Int.fdiv_eq_ediv_of_nonneg _ (by omega), wrap_i64] <;> omega

theorem bsearch_is (D : List Dc) (p : Int) (hR : Rise D) (hl : D.length ≤ 1000000) :
    ∃ i : Nat, i ≤ D.length ∧ (∀ k, k < i → (D.getD k zD).1 < p) ∧ (∀ k, i ≤ k → k < D.length → p ≤ (D.getD k zD).1) ∧
      slices_BinarySearchFunc__ p D = some ((i : Int), decide (i < D.length) && decide ((D.getD i zD).1 = p), D) := by
  obtain ⟨x, hx, hQ⟩ := runLoop_inv (b := slices_BinarySearchFunc___b3)
    (fun v => ∃ i j : Nat, v = (p, (D.length : Int), (i : Int), (j : Int), D) ∧ i ≤ j ∧ j ≤ D.length ∧ (∀ k, k < i → (D.getD k zD).1 < p) ∧ (∀ k, j ≤ k → k < D.length → p ≤ (D.getD k zD).1))
    (fun v => (v.2.2.2.1 - v.2.2.1).toNat)
    (fun x => ∃ i : Nat, x = (p, (D.length : Int), (i : Int), D) ∧ i ≤ D.length ∧ (∀ k, k < i → (D.getD k zD).1 < p) ∧ (∀ k, i ≤ k → k < D.length → p ≤ (D.getD k zD).1)) (by
      rintro v ⟨i, j, rfl, hij, hj, ha, hb⟩
      by_cases h : i < j
      · left
        have hm := mid_is i j (by omega) (by omega) (by omega)
        obtain ⟨m, hmm⟩ : ∃ m : Nat, ((i : Int) + j) / 2 = m := ⟨((i : Int) + j).toNat / 2, by omega⟩
        have hmi : i ≤ m := by omega
        have hmj : m < j := by omega
        have d0 : decide ((i : Int) < (j : Int)) = true := decide_eq_true (by omega)
        have d1 : decide ((0 : Int) ≤ (m : Int)) = true := decide_eq_true (by omega)
        have d2 : decide ((m : Int) < (D.length : Int)) = true := decide_eq_true (by omega)
        have d3 : decide (m < D.length) = true := decide_eq_true (by omega)
        have hw : IntKind.i64.wrap ((m : Int) + 1) = ((m + 1 : Nat) : Int) := by rw [wrap_i64] <;> omega
        have hline := line1_is (D.getD m zD) p
        unfold zD at hline
        by_cases hc : (D.getD m zD).1 < p
        · refine ⟨(p, (D.length : Int), ((m + 1 : Nat) : Int), (j : Int), D), ?_, ⟨m + 1, j, rfl, by omega, hj, fun k hk => ?_, hb⟩, by simp only; omega⟩
          · have hc' := hc
            unfold zD at hc'
            rw [if_pos hc'] at hline
            simp only [slices_BinarySearchFunc___b3, d0, hm, hmm, d1, d2, d3, Bool.and_self, if_true, Int.toNat_natCast, hline, Option.bind_some, hw]
            rfl
          · by_cases hk' : k = m
            · subst hk'; exact hc
            · have := rise_lt hR (show k < m by omega) (by omega)
              omega
        · refine ⟨(p, (D.length : Int), (i : Int), (m : Int), D), ?_, ⟨i, m, rfl, hmi, by omega, ha, fun k hk hk2 => ?_⟩, by simp only; omega⟩
          · have hc' := hc
            unfold zD at hc'
            rw [if_neg hc'] at hline
            have hg : decide ((if (D.getD m (0, [], false, false)).1 > p then (1 : Int) else 0) < 0) = false := by
              split <;> rfl
            simp only [slices_BinarySearchFunc___b3, d0, hm, hmm, d1, d2, d3, Bool.and_self, if_true, Int.toNat_natCast, hline, Option.bind_some, hg, Bool.false_eq_true, if_false]
          · by_cases hk' : k = m
            · subst hk'; omega
            · have := rise_lt hR (show m < k by omega) hk2
              omega
      · right
        have d0 : decide ((i : Int) < (j : Int)) = false := decide_eq_false (by omega)
        have : i = j := by omega
        subst this
        exact ⟨_, by simp only [slices_BinarySearchFunc___b3, d0, Bool.false_eq_true, if_false], i, rfl, hj, ha, hb⟩)
    (p, (D.length : Int), ((0 : Nat) : Int), (D.length : Int), D) ⟨0, D.length, rfl, by omega, by omega, fun k hk => by omega, fun k h1 h2 => by omega⟩
  obtain ⟨i, rfl, h1, h2, h3⟩ := hQ
  refine ⟨i, h1, h2, h3, ?_⟩
  unfold slices_BinarySearchFunc__
  have hx' : runLoop slices_BinarySearchFunc___b3 (p, (D.length : Int), (0 : Int), (D.length : Int), D) = some (p, (D.length : Int), (i : Int), D) := hx
  rw [hx']
  simp only [Option.bind_some]
  by_cases hi : i < D.length
  · have d0 : decide ((i : Int) < (D.length : Int)) = true := decide_eq_true (by omega)
    have d1 : decide ((0 : Int) ≤ (i : Int)) = true := decide_eq_true (by omega)
    have d3 : decide (i < D.length) = true := decide_eq_true hi
    have hline := line1_is (D.getD i zD) p
    have hge := h3 i (Nat.le_refl _) hi
    rw [if_neg (by omega)] at hline
    unfold zD at hline hge ⊢
    simp only [d0, d1, d3, Bool.and_self, if_true, Int.toNat_natCast]
    rw [hline]
    simp only [Option.bind_some, Bool.true_and]
    by_cases he : (D.getD i (0, [], false, false)).1 = p
    · have e1 : ¬ (D.getD i (0, [], false, false)).1 > p := by omega
      rw [if_neg e1, decide_eq_true he]; rfl
    · have e1 : (D.getD i (0, [], false, false)).1 > p := by omega
      rw [if_pos e1, decide_eq_false he]; rfl
  · have d0 : decide ((i : Int) < (D.length : Int)) = false := decide_eq_false (by omega)
    simp [d0, hi]

theorem fnd_some {D : List Dc} (hR : Rise D) {i : Nat} (hi : i < D.length) {p : Int} (hp : (D.getD i zD).1 = p) (c : Bool) : fnd D p c = if c || !(D.getD i zD).2.2.1 then some (D.getD i zD) else none := by
  have hg : D.getD i zD = D[i] := by simp [List.getD, List.getElem?_eq_getElem hi]
  rw [hg] at hp ⊢
  have huniq : ∀ d ∈ D, d.1 = p → d = D[i] := by
    intro d hd hdp
    obtain ⟨k, hk, rfl⟩ := List.getElem_of_mem hd
    rcases Nat.lt_trichotomy k i with h | h | h
    · have := List.pairwise_iff_getElem.1 hR k i hk hi h
      omega
    · subst h; rfl
    · have := List.pairwise_iff_getElem.1 hR i k hi hk h
      omega
  unfold fnd
  by_cases hc : (c || !D[i].2.2.1) = true
  · rw [if_pos hc]
    cases hf : D.find? (hit p c) with
    | none =>
      have := List.find?_eq_none.1 hf D[i] (List.getElem_mem hi)
      unfold hit at this
      rw [hp, hc] at this
      simp at this
    | some d =>
      have h1 := List.find?_some hf
      have h2 := List.mem_of_find?_eq_some hf
      unfold hit at h1
      simp only [Bool.and_eq_true, beq_iff_eq] at h1
      rw [huniq d h2 h1.1]
  · rw [if_neg hc]
    apply List.find?_eq_none.2
    intro d hd hh
    unfold hit at hh
    simp only [Bool.and_eq_true, beq_iff_eq] at hh
    rw [huniq d hd hh.1] at hh
    exact hc hh.2
theorem fnd_none {D : List Dc} {p : Int} (h : ∀ k, k < D.length → (D.getD k zD).1 ≠ p) (c : Bool) : fnd D p c = none := by
  apply List.find?_eq_none.2
  intro d hd hh
  obtain ⟨k, hk, rfl⟩ := List.getElem_of_mem hd
  unfold hit at hh
  simp only [Bool.and_eq_true, beq_iff_eq] at hh
  have := h k hk
  simp [List.getD, List.getElem?_eq_getElem hk] at this
  exact this hh.1

section
variable (l1 : List (Int × Int × ByteArray × ByteArray × ByteArray × Bool)) (l2 : List (Int × Int × Int)) (D : List Dc) (l4 l5 : List (Int × Int × Int)) (l6 : List (ByteArray × Int × Int))
theorem line_is (hR : Rise D) (hl : D.length ≤ 1000000) (p : Int) (c : Bool) : tables_Tables_line p c l1 l2 D l4 l5 l6 = some (match fnd D p c with
    | some d => (true, d.1, d.2.2.1, d.2.2.2, l1, l2, D, l4, l5, l6, d.2.1)
    | none => (false, 0, false, false, l1, l2, D, l4, l5, l6, [])) := by
  obtain ⟨i, h1, h2, h3, hb⟩ := bsearch_is D p hR hl
  unfold tables_Tables_line
  rw [hb]
  simp only [Option.bind_some]
  by_cases hi : i < D.length
  · have d1 : decide ((0 : Int) ≤ (i : Int)) = true := decide_eq_true (by omega)
    have d2 : decide ((i : Int) < (D.length : Int)) = true := decide_eq_true (by omega)
    have d3 : decide (i < D.length) = true := decide_eq_true hi
    by_cases he : (D.getD i zD).1 = p
    · rw [fnd_some hR hi he c]
      have e1 : decide ((D.getD i zD).1 = p) = true := decide_eq_true he
      simp only [e1, d1, d2, d3, Bool.and_self, Bool.not_true, Bool.false_eq_true, if_false, if_true, Int.toNat_natCast]
      unfold zD
      cases hX : (D.getD i (0, [], false, false)).2.2.1 <;> cases c <;> (try simp only [hX, Bool.not_true, Bool.not_false, Bool.or_true, Bool.or_false, Bool.false_eq_true, if_true, if_false]) <;> rfl
    · have e1 : decide ((D.getD i zD).1 = p) = false := decide_eq_false he
      rw [fnd_none (fun k hk => by
        rcases Nat.lt_trichotomy k i with h | h | h
        · have := h2 k h; omega
        · subst h; exact he
        · have := rise_lt hR h hk
          have := h3 i (Nat.le_refl _) hi
          omega) c]
      simp only [e1, Bool.and_false, Bool.not_false, if_true]
  · have d3 : decide (i < D.length) = false := decide_eq_false hi
    rw [fnd_none (fun k hk => by have := h2 k (by omega); omega) c]
    simp only [d3, Bool.false_and, Bool.not_false, if_true]

def fullL (f : Int → Option (List Int)) : List Int → Option (List Int)
  | [] => some []
  | x :: r => (f x).bind fun a => (fullL f r).bind fun b => some (a ++ b)
/-- What a point becomes in full, as deep as that. -/
def fullS (D : List Dc) (c : Bool) : Nat → Int → Option (List Int)
  | 0, _ => none
  | n + 1, p => match fnd D p c with
    | none => some [p]
    | some d => fullL (fullS D c n) d.2.1

theorem full_loop (c : Bool) (rec : Int → Bool → (List (Int × Int × ByteArray × ByteArray × ByteArray × Bool)) → (List (Int × Int × Int)) → (List Dc) → (List (Int × Int × Int)) → (List (Int × Int × Int)) → (List (ByteArray × Int × Int)) → Option ((List (Int) × List (Int × Int × ByteArray × ByteArray × ByteArray × Bool) × List (Int × Int × Int) × List (Int × List (Int) × Bool × Bool) × List (Int × Int × Int) × List (Int × Int × Int) × List (ByteArray × Int × Int))))
    (f : Int → Option (List Int)) (hrec : ∀ q l, f q = some l → l.length ≤ 1000 → rec q c l1 l2 D l4 l5 l6 = some (l, l1, l2, D, l4, l5, l6)) (tw : List Int) (hto : tw.length ≤ 1000000) :
    ∀ (n i : Nat) (acc r : List Int), n + i = tw.length → fullL f (tw.drop i) = some r → acc.length + r.length ≤ 1000 →
      runLoop (tables_Tables_full_b6 rec) (c, (tw.length : Int), (i : Int), tw, l1, l2, D, l4, l5, l6, acc) = some (acc ++ r, l1, l2, D, l4, l5, l6) := by
  intro n
  induction n with
  | zero =>
    intro i acc r h1 h2 h3
    have : i = tw.length := by omega
    subst this
    rw [List.drop_length] at h2
    cases h2
    have d0 : decide ((tw.length : Int) < (tw.length : Int)) = false := decide_eq_false (by omega)
    rw [List.append_nil]
    exact runLoop_done (by simp only [tables_Tables_full_b6, d0, Bool.false_eq_true, if_false])
  | succ n ih =>
    intro i acc r h1 h2 h3
    have hi : i < tw.length := by omega
    rw [List.drop_eq_getElem_cons hi] at h2
    unfold fullL at h2
    cases hf : f tw[i] with
    | none => rw [hf] at h2; cases h2
    | some a =>
      rw [hf] at h2
      simp only [Option.bind_some] at h2
      cases hg : fullL f (tw.drop (i + 1)) with
      | none => rw [hg] at h2; cases h2
      | some b =>
        rw [hg] at h2
        cases h2
        rw [List.length_append] at h3
        have hr := hrec _ _ hf (by omega)
        have d0 : decide ((i : Int) < (tw.length : Int)) = true := decide_eq_true (by omega)
        have d1 : decide ((0 : Int) ≤ (i : Int)) = true := decide_eq_true (by omega)
        have d2 : decide (i < tw.length) = true := decide_eq_true hi
        have hgd : tw.getD i 0 = tw[i] := by simp [List.getD, List.getElem?_eq_getElem hi]
        have hw : IntKind.i64.wrap ((i : Int) + 1) = ((i + 1 : Nat) : Int) := by rw [wrap_i64] <;> omega
        have hlen : decide ((acc.length + a.length) * 4 ≤ 140737488355328) = true := decide_eq_true (by omega)
        rw [runLoop_step (v' := (c, (tw.length : Int), ((i + 1 : Nat) : Int), tw, l1, l2, D, l4, l5, l6, acc ++ a)) (by simp only [tables_Tables_full_b6, d0, d1, d2, Bool.and_self, if_true, Int.toNat_natCast, hgd, hr, Option.bind_some, hlen, hw])]
        rw [ih (i + 1) (acc ++ a) b (by omega) hg (by rw [List.length_append]; omega), List.append_assoc]

theorem full_n (hR : Rise D) (hl : D.length ≤ 1000000) (hT : ∀ d ∈ D, d.2.1.length ≤ 1000000) (c : Bool) : ∀ (n : Nat) (p : Int) (l : List Int), fullS D c n p = some l → l.length ≤ 1000 →
    tables_Tables_full_n n p c l1 l2 D l4 l5 l6 = some (l, l1, l2, D, l4, l5, l6) := by
  intro n
  induction n with
  | zero => intro p l h; cases h
  | succ n ih =>
    intro p l h hlen
    unfold fullS at h
    unfold tables_Tables_full_n tables_Tables_full_r
    rw [line_is l1 l2 D l4 l5 l6 hR hl]
    cases hf : fnd D p c with
    | none =>
      rw [hf] at h
      cases h
      rfl
    | some d =>
      rw [hf] at h
      have hd := hT d (List.mem_of_find?_eq_some hf)
      have key := full_loop l1 l2 D l4 l5 l6 c (tables_Tables_full_n n) (fullS D c n) ih d.2.1 hd d.2.1.length 0 [] l (by omega) (by rw [List.drop_zero]; exact h) (by simpa using hlen)
      simp only [Option.bind_some, Bool.not_true, Bool.false_eq_true, if_false]
      have key' : runLoop (tables_Tables_full_b6 (tables_Tables_full_n n)) (c, (d.2.1.length : Int), (0 : Int), d.2.1, l1, l2, D, l4, l5, l6, []) = some ([] ++ l, l1, l2, D, l4, l5, l6) := key
      rw [key']
      rfl
theorem full_is (hR : Rise D) (hl : D.length ≤ 1000000) (hT : ∀ d ∈ D, d.2.1.length ≤ 1000000) (c : Bool) (p : Int) (l : List Int) (h : fullS D c 64 p = some l) (hlen : l.length ≤ 1000) :
    tables_Tables_full p c l1 l2 D l4 l5 l6 = some (l, l1, l2, D, l4, l5, l6) := full_n l1 l2 D l4 l5 l6 hR hl hT c 64 p l h hlen
end
end Go.Pc
