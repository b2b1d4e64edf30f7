/- Part 24 of the proof of the statement that the last part names; it asks for no condition of its own. Here: GenTsA. -/
import Derived.Test.YtgkfbembnlgahaaGreatDoorQav
import Derived.Test.YtgkfbembnlgahaaGreatDoorQar
set_option linter.all false
set_option linter.unusedVariables false
set_option maxRecDepth 100000
namespace Go.Tx
open Go Go.Sx
noncomputable def ref08_Merged_i2_b2 : Int × List (Int × Int) → Option ((Int × List (Int × Int)) ⊕ ((Bool × List (Int × Int)) ⊕ (List (Int × Int)))) := fun
  | (i3, l0) =>
  if (decide (i3 < ((l0.length : Nat) : Int))) = true then
   if ((decide ((0 : Int) ≤ i3)) && (decide (i3 < ((l0.length : Nat) : Int)))) = true then
    if (decide (i3.toNat < l0.length)) = true then
     if ((decide ((0 : Int) ≤ i3)) && (decide (i3 < ((l0.length : Nat) : Int)))) = true then
      if (decide (i3.toNat < l0.length)) = true then
       if (decide ((l0.getD i3.toNat ((0 : Int), (0 : Int))).1 > (l0.getD i3.toNat ((0 : Int), (0 : Int))).2)) = true then
        some (.inr (.inl (false, l0)))
       else
        if (decide (i3 > (0 : Int))) = true then
         if ((decide ((0 : Int) ≤ i3)) && (decide (i3 < ((l0.length : Nat) : Int)))) = true then
          if (decide (i3.toNat < l0.length)) = true then
           if ((decide ((0 : Int) ≤ (Go.IntKind.wrap .i64 (i3 - (1 : Int))))) && (decide ((Go.IntKind.wrap .i64 (i3 - (1 : Int))) < ((l0.length : Nat) : Int)))) = true then
            if (decide ((Go.IntKind.wrap .i64 (i3 - (1 : Int))).toNat < l0.length)) = true then
             if (decide ((l0.getD i3.toNat ((0 : Int), (0 : Int))).1 ≤ (l0.getD (Go.IntKind.wrap .i64 (i3 - (1 : Int))).toNat ((0 : Int), (0 : Int))).2)) = true then
              some (.inr (.inl (false, l0)))
             else
              if ((decide ((0 : Int) ≤ i3)) && (decide (i3 < ((l0.length : Nat) : Int)))) = true then
               if (decide (i3.toNat < l0.length)) = true then
                if ((decide ((0 : Int) ≤ (Go.IntKind.wrap .i64 (i3 - (1 : Int))))) && (decide ((Go.IntKind.wrap .i64 (i3 - (1 : Int))) < ((l0.length : Nat) : Int)))) = true then
                 if (decide ((Go.IntKind.wrap .i64 (i3 - (1 : Int))).toNat < l0.length)) = true then
                  if (decide ((Go.IntKind.wrap .u32 ((l0.getD i3.toNat ((0 : Int), (0 : Int))).1 - (l0.getD (Go.IntKind.wrap .i64 (i3 - (1 : Int))).toNat ((0 : Int), (0 : Int))).2)) < (2 : Int))) = true then
                   some (.inr (.inl (false, l0)))
                  else
                   some (.inl ((Go.IntKind.wrap .i64 (i3 + (1 : Int))), l0))
                 else
                  none
                else
                 none
               else
                none
              else
               none
            else
             none
           else
            none
          else
           none
         else
          none
        else
         some (.inl ((Go.IntKind.wrap .i64 (i3 + (1 : Int))), l0))
      else
       none
     else
      none
    else
     none
   else
    none
  else
   some (.inr (.inr l0))
noncomputable def ref08_Merged_i2 (l0 : List (Int × Int)) : Option ((Bool × List (Int × Int))) :=
  ((Go.Sx.runLoop ref08_Merged_i2_b2 ((0 : Int), l0))).bind fun r0_0 =>
   match r0_0 with
   | .inl (r1_0, r1_1) =>
    some (r1_0, r1_1)
   | .inr r2_0 =>
    some (true, r2_0)
noncomputable def law08_TablesSpans_b14 : Int × Int × List (List (Int × Int) × Bool) × List (ByteArray) → Option ((Int × Int × List (List (Int × Int) × Bool) × List (ByteArray)) ⊕ ((Bool × List (ByteArray)) ⊕ List (ByteArray))) := fun
  | (p0, t109, l207, l0) =>
  if (decide (t109 < (6 : Int))) = true then
   if ((decide ((0 : Int) ≤ t109)) && (decide (t109 < ((l207.length : Nat) : Int)))) = true then
    if (decide (t109.toNat < l207.length)) = true then
     ((Go.Tx.ref06_In p0 (l207.getD t109.toNat ([], false)).1)).bind fun (r0_0, r0_1) =>
      if (!(decide (r0_0 = (l207.getD t109.toNat ([], false)).2))) = true then
       some (.inr (.inl (false, l0)))
      else
       ((Go.Tx.ref08_Merged_i2 r0_1)).bind fun (r1_0, r1_1) =>
        if (!r1_0) = true then
         some (.inr (.inl (false, l0)))
        else
         some (.inl (p0, ((Go.IntKind.wrap .i64 (t109 + (1 : Int))), (l207, l0))))
    else
     none
   else
    none
  else
   some (.inr (.inr l0))
noncomputable def law08_TablesSpans (p0 : Int) (all2 : Bool) (l0 : List (ByteArray)) : Option ((Bool × List (ByteArray))) :=
  (Go.Tx.law08_awake).bind fun r0_0 =>
   if (!r0_0) = true then
    some (false, l0)
   else
    if (decide (((l0.length : Nat) : Int) > (20 : Int))) = true then
     some (true, l0)
    else
     (Go.Tx.ref08_New).bind fun (r1_0, r1_1, r1_2, r1_3, r1_4, r1_5) =>
      (Go.Tx.tables_New).bind fun (r2_0, r2_1, r2_2, r2_3, r2_4, r2_5) =>
       ((Go.Tx.ref08_Tables_Range p0 r1_0 r1_1 r1_2 r1_3 r1_4 r1_5)).bind fun r3_0 =>
        match r3_0 with
        | .inl (r4_0, r4_1, r4_2, r4_3, r4_4, r4_5, r4_6, r4_7, r4_8, r4_9, r4_10, r4_11) =>
         if (decide (((l0.length : Nat) : Int) > (0 : Int))) = true then
          if (decide ((0 : Int) < ((l0.length : Nat) : Int))) = true then
           if (decide (0 < l0.length)) = true then
            if (decide ((((l0.getD 0 ByteArray.empty).size : Nat) : Int) > (100 : Int))) = true then
             some (true, l0)
            else
             ((Go.Tx.ref08_Tables_Line p0 true r4_6 r4_7 r4_8 r4_9 r4_10 r4_11)).bind fun (r5_0, r5_1, r5_2, r5_3, r5_4, r5_5, r5_6) =>
              ((Go.Tx.tables_Tables_Assigned all2 r2_0 r2_1 r2_2 r2_3 r2_4 r2_5)).bind fun (r6_0, r6_1, r6_2, r6_3, r6_4, r6_5, r6_6) =>
               if all2 = true then
                ((Go.Tx.tables_Tables_Cats l0 r6_1 r6_2 r6_3 r6_4 r6_5 r6_6)).bind fun (r7_0, r7_1, r7_2, r7_3, r7_4, r7_5, r7_6, r7_7) =>
                 ((Go.Tx.ref08_One r4_2 r7_1)).bind fun (r8_0, r8_1) =>
                  ((Go.Tx.tables_Tables_Sides r8_1 r7_2 r7_3 r7_4 r7_5 r7_6 r7_7)).bind fun (r9_0, r9_1, r9_2, r9_3, r9_4, r9_5, r9_6, r9_7) =>
                   ((Go.Tx.ref08_One r4_3 r9_1)).bind fun (r10_0, r10_1) =>
                    ((Go.Tx.tables_Tables_Joins (l0.getD 0 ByteArray.empty) r9_2 r9_3 r9_4 r9_5 r9_6 r9_7)).bind fun (r11_0, r11_1, r11_2, r11_3, r11_4, r11_5, r11_6) =>
                     ((Go.Tx.ref08_Letter (l0.getD 0 ByteArray.empty) r4_4)).bind fun r12_0 =>
                      ((Go.Tx.tables_Tables_Set (l0.getD 0 ByteArray.empty) r11_1 r11_2 r11_3 r11_4 r11_5 r11_6)).bind fun (r13_0, r13_1, r13_2, r13_3, r13_4, r13_5, r13_6) =>
                       ((Go.Tx.ref08_Tables_Set (l0.getD 0 ByteArray.empty) p0 r5_1 r5_2 r5_3 r5_4 r5_5 r5_6)).bind fun (r14_0, r14_1, r14_2, r14_3, r14_4, r14_5, r14_6) =>
                        ((Go.Tx.tables_Tables_Alike r13_2 r13_3 r13_4 r13_5 r13_6 r13_1)).bind fun (r15_0, r15_1, r15_2, r15_3, r15_4, r15_5, r15_6) =>
                         if (decide (r5_0 ≥ (0 : Int))) = true then
                          if ((decide ((0 : Int) ≤ r5_0)) && (decide (r5_0 < ((r14_3.length : Nat) : Int)))) = true then
                           if (decide (r5_0.toNat < r14_3.length)) = true then
                            ((Go.Sx.runLoop law08_TablesSpans_b14 (p0, ((0 : Int), ([(r6_0, true), (r7_0, r8_0), (r9_0, r10_0), (r11_0, r12_0), (r13_0, r14_0), (r15_0, (r14_3.getD r5_0.toNat ((0 : Int), ([], (false, false)))).2.2.1)], r10_1))))).bind fun r16_0 =>
                             match r16_0 with
                             | .inl (r17_0, r17_1) =>
                              some (r17_0, r17_1)
                             | .inr r18_0 =>
                              some (true, r18_0)
                           else
                            none
                          else
                           none
                         else
                          ((Go.Sx.runLoop law08_TablesSpans_b14 (p0, ((0 : Int), ([(r6_0, true), (r7_0, r8_0), (r9_0, r10_0), (r11_0, r12_0), (r13_0, r14_0), (r15_0, false)], r10_1))))).bind fun r19_0 =>
                           match r19_0 with
                           | .inl (r20_0, r20_1) =>
                            some (r20_0, r20_1)
                           | .inr r21_0 =>
                            some (true, r21_0)
               else
                ((Go.Tx.tables_Tables_Cats l0 r6_1 r6_2 r6_3 r6_4 r6_5 r6_6)).bind fun (r22_0, r22_1, r22_2, r22_3, r22_4, r22_5, r22_6, r22_7) =>
                 ((Go.Tx.ref08_One r4_2 r22_1)).bind fun (r23_0, r23_1) =>
                  ((Go.Tx.tables_Tables_Sides r23_1 r22_2 r22_3 r22_4 r22_5 r22_6 r22_7)).bind fun (r24_0, r24_1, r24_2, r24_3, r24_4, r24_5, r24_6, r24_7) =>
                   ((Go.Tx.ref08_One r4_3 r24_1)).bind fun (r25_0, r25_1) =>
                    ((Go.Tx.tables_Tables_Joins (l0.getD 0 ByteArray.empty) r24_2 r24_3 r24_4 r24_5 r24_6 r24_7)).bind fun (r26_0, r26_1, r26_2, r26_3, r26_4, r26_5, r26_6) =>
                     ((Go.Tx.ref08_Letter (l0.getD 0 ByteArray.empty) r4_4)).bind fun r27_0 =>
                      ((Go.Tx.tables_Tables_Set (l0.getD 0 ByteArray.empty) r26_1 r26_2 r26_3 r26_4 r26_5 r26_6)).bind fun (r28_0, r28_1, r28_2, r28_3, r28_4, r28_5, r28_6) =>
                       ((Go.Tx.ref08_Tables_Set (l0.getD 0 ByteArray.empty) p0 r5_1 r5_2 r5_3 r5_4 r5_5 r5_6)).bind fun (r29_0, r29_1, r29_2, r29_3, r29_4, r29_5, r29_6) =>
                        ((Go.Tx.tables_Tables_Alike r28_2 r28_3 r28_4 r28_5 r28_6 r28_1)).bind fun (r30_0, r30_1, r30_2, r30_3, r30_4, r30_5, r30_6) =>
                         if (decide (r5_0 ≥ (0 : Int))) = true then
                          if ((decide ((0 : Int) ≤ r5_0)) && (decide (r5_0 < ((r29_3.length : Nat) : Int)))) = true then
                           if (decide (r5_0.toNat < r29_3.length)) = true then
                            ((Go.Sx.runLoop law08_TablesSpans_b14 (p0, ((0 : Int), ([(r6_0, (!r4_5)), (r22_0, r23_0), (r24_0, r25_0), (r26_0, r27_0), (r28_0, r29_0), (r30_0, (r29_3.getD r5_0.toNat ((0 : Int), ([], (false, false)))).2.2.1)], r25_1))))).bind fun r31_0 =>
                             match r31_0 with
                             | .inl (r32_0, r32_1) =>
                              some (r32_0, r32_1)
                             | .inr r33_0 =>
                              some (true, r33_0)
                           else
                            none
                          else
                           none
                         else
                          ((Go.Sx.runLoop law08_TablesSpans_b14 (p0, ((0 : Int), ([(r6_0, (!r4_5)), (r22_0, r23_0), (r24_0, r25_0), (r26_0, r27_0), (r28_0, r29_0), (r30_0, false)], r25_1))))).bind fun r34_0 =>
                           match r34_0 with
                           | .inl (r35_0, r35_1) =>
                            some (r35_0, r35_1)
                           | .inr r36_0 =>
                            some (true, r36_0)
           else
            none
          else
           none
         else
          ((Go.Tx.ref08_Tables_Line p0 true r4_6 r4_7 r4_8 r4_9 r4_10 r4_11)).bind fun (r37_0, r37_1, r37_2, r37_3, r37_4, r37_5, r37_6) =>
           ((Go.Tx.tables_Tables_Assigned all2 r2_0 r2_1 r2_2 r2_3 r2_4 r2_5)).bind fun (r38_0, r38_1, r38_2, r38_3, r38_4, r38_5, r38_6) =>
            if all2 = true then
             ((Go.Tx.tables_Tables_Cats l0 r38_1 r38_2 r38_3 r38_4 r38_5 r38_6)).bind fun (r39_0, r39_1, r39_2, r39_3, r39_4, r39_5, r39_6, r39_7) =>
              ((Go.Tx.ref08_One r4_2 r39_1)).bind fun (r40_0, r40_1) =>
               ((Go.Tx.tables_Tables_Sides r40_1 r39_2 r39_3 r39_4 r39_5 r39_6 r39_7)).bind fun (r41_0, r41_1, r41_2, r41_3, r41_4, r41_5, r41_6, r41_7) =>
                ((Go.Tx.ref08_One r4_3 r41_1)).bind fun (r42_0, r42_1) =>
                 ((Go.Tx.tables_Tables_Joins (ByteArray.mk (List.toArray [])) r41_2 r41_3 r41_4 r41_5 r41_6 r41_7)).bind fun (r43_0, r43_1, r43_2, r43_3, r43_4, r43_5, r43_6) =>
                  ((Go.Tx.ref08_Letter (ByteArray.mk (List.toArray [])) r4_4)).bind fun r44_0 =>
                   ((Go.Tx.tables_Tables_Set (ByteArray.mk (List.toArray [])) r43_1 r43_2 r43_3 r43_4 r43_5 r43_6)).bind fun (r45_0, r45_1, r45_2, r45_3, r45_4, r45_5, r45_6) =>
                    ((Go.Tx.ref08_Tables_Set (ByteArray.mk (List.toArray [])) p0 r37_1 r37_2 r37_3 r37_4 r37_5 r37_6)).bind fun (r46_0, r46_1, r46_2, r46_3, r46_4, r46_5, r46_6) =>
                     ((Go.Tx.tables_Tables_Alike r45_2 r45_3 r45_4 r45_5 r45_6 r45_1)).bind fun (r47_0, r47_1, r47_2, r47_3, r47_4, r47_5, r47_6) =>
                      if (decide (r37_0 ≥ (0 : Int))) = true then
                       if ((decide ((0 : Int) ≤ r37_0)) && (decide (r37_0 < ((r46_3.length : Nat) : Int)))) = true then
                        if (decide (r37_0.toNat < r46_3.length)) = true then
                         ((Go.Sx.runLoop law08_TablesSpans_b14 (p0, ((0 : Int), ([(r38_0, true), (r39_0, r40_0), (r41_0, r42_0), (r43_0, r44_0), (r45_0, r46_0), (r47_0, (r46_3.getD r37_0.toNat ((0 : Int), ([], (false, false)))).2.2.1)], r42_1))))).bind fun r48_0 =>
                          match r48_0 with
                          | .inl (r49_0, r49_1) =>
                           some (r49_0, r49_1)
                          | .inr r50_0 =>
                           some (true, r50_0)
                        else
                         none
                       else
                        none
                      else
                       ((Go.Sx.runLoop law08_TablesSpans_b14 (p0, ((0 : Int), ([(r38_0, true), (r39_0, r40_0), (r41_0, r42_0), (r43_0, r44_0), (r45_0, r46_0), (r47_0, false)], r42_1))))).bind fun r51_0 =>
                        match r51_0 with
                        | .inl (r52_0, r52_1) =>
                         some (r52_0, r52_1)
                        | .inr r53_0 =>
                         some (true, r53_0)
            else
             ((Go.Tx.tables_Tables_Cats l0 r38_1 r38_2 r38_3 r38_4 r38_5 r38_6)).bind fun (r54_0, r54_1, r54_2, r54_3, r54_4, r54_5, r54_6, r54_7) =>
              ((Go.Tx.ref08_One r4_2 r54_1)).bind fun (r55_0, r55_1) =>
               ((Go.Tx.tables_Tables_Sides r55_1 r54_2 r54_3 r54_4 r54_5 r54_6 r54_7)).bind fun (r56_0, r56_1, r56_2, r56_3, r56_4, r56_5, r56_6, r56_7) =>
                ((Go.Tx.ref08_One r4_3 r56_1)).bind fun (r57_0, r57_1) =>
                 ((Go.Tx.tables_Tables_Joins (ByteArray.mk (List.toArray [])) r56_2 r56_3 r56_4 r56_5 r56_6 r56_7)).bind fun (r58_0, r58_1, r58_2, r58_3, r58_4, r58_5, r58_6) =>
                  ((Go.Tx.ref08_Letter (ByteArray.mk (List.toArray [])) r4_4)).bind fun r59_0 =>
                   ((Go.Tx.tables_Tables_Set (ByteArray.mk (List.toArray [])) r58_1 r58_2 r58_3 r58_4 r58_5 r58_6)).bind fun (r60_0, r60_1, r60_2, r60_3, r60_4, r60_5, r60_6) =>
                    ((Go.Tx.ref08_Tables_Set (ByteArray.mk (List.toArray [])) p0 r37_1 r37_2 r37_3 r37_4 r37_5 r37_6)).bind fun (r61_0, r61_1, r61_2, r61_3, r61_4, r61_5, r61_6) =>
                     ((Go.Tx.tables_Tables_Alike r60_2 r60_3 r60_4 r60_5 r60_6 r60_1)).bind fun (r62_0, r62_1, r62_2, r62_3, r62_4, r62_5, r62_6) =>
                      if (decide (r37_0 ≥ (0 : Int))) = true then
                       if ((decide ((0 : Int) ≤ r37_0)) && (decide (r37_0 < ((r61_3.length : Nat) : Int)))) = true then
                        if (decide (r37_0.toNat < r61_3.length)) = true then
                         ((Go.Sx.runLoop law08_TablesSpans_b14 (p0, ((0 : Int), ([(r38_0, (!r4_5)), (r54_0, r55_0), (r56_0, r57_0), (r58_0, r59_0), (r60_0, r61_0), (r62_0, (r61_3.getD r37_0.toNat ((0 : Int), ([], (false, false)))).2.2.1)], r57_1))))).bind fun r63_0 =>
                          match r63_0 with
                          | .inl (r64_0, r64_1) =>
                           some (r64_0, r64_1)
                          | .inr r65_0 =>
                           some (true, r65_0)
                        else
                         none
                       else
                        none
                      else
                       ((Go.Sx.runLoop law08_TablesSpans_b14 (p0, ((0 : Int), ([(r38_0, (!r4_5)), (r54_0, r55_0), (r56_0, r57_0), (r58_0, r59_0), (r60_0, r61_0), (r62_0, false)], r57_1))))).bind fun r66_0 =>
                        match r66_0 with
                        | .inl (r67_0, r67_1) =>
                         some (r67_0, r67_1)
                        | .inr r68_0 =>
                         some (true, r68_0)
        | .inr (r69_0, r69_1, r69_2, r69_3, r69_4, r69_5, r69_6, r69_7, r69_8, r69_9, r69_10, r69_11) =>
         if (decide (((l0.length : Nat) : Int) > (0 : Int))) = true then
          if (decide ((0 : Int) < ((l0.length : Nat) : Int))) = true then
           if (decide (0 < l0.length)) = true then
            if (decide ((((l0.getD 0 ByteArray.empty).size : Nat) : Int) > (100 : Int))) = true then
             some (true, l0)
            else
             ((Go.Tx.ref08_Tables_Line p0 true r69_6 r69_7 r69_8 r69_9 r69_10 r69_11)).bind fun (r70_0, r70_1, r70_2, r70_3, r70_4, r70_5, r70_6) =>
              ((Go.Tx.tables_Tables_Assigned all2 r2_0 r2_1 r2_2 r2_3 r2_4 r2_5)).bind fun (r71_0, r71_1, r71_2, r71_3, r71_4, r71_5, r71_6) =>
               ((Go.Tx.tables_Tables_Cats l0 r71_1 r71_2 r71_3 r71_4 r71_5 r71_6)).bind fun (r72_0, r72_1, r72_2, r72_3, r72_4, r72_5, r72_6, r72_7) =>
                ((Go.Tx.tables_Tables_Sides r72_1 r72_2 r72_3 r72_4 r72_5 r72_6 r72_7)).bind fun (r73_0, r73_1, r73_2, r73_3, r73_4, r73_5, r73_6, r73_7) =>
                 ((Go.Tx.tables_Tables_Joins (l0.getD 0 ByteArray.empty) r73_2 r73_3 r73_4 r73_5 r73_6 r73_7)).bind fun (r74_0, r74_1, r74_2, r74_3, r74_4, r74_5, r74_6) =>
                  ((Go.Tx.tables_Tables_Set (l0.getD 0 ByteArray.empty) r74_1 r74_2 r74_3 r74_4 r74_5 r74_6)).bind fun (r75_0, r75_1, r75_2, r75_3, r75_4, r75_5, r75_6) =>
                   ((Go.Tx.ref08_Tables_Set (l0.getD 0 ByteArray.empty) p0 r70_1 r70_2 r70_3 r70_4 r70_5 r70_6)).bind fun (r76_0, r76_1, r76_2, r76_3, r76_4, r76_5, r76_6) =>
                    ((Go.Tx.tables_Tables_Alike r75_2 r75_3 r75_4 r75_5 r75_6 r75_1)).bind fun (r77_0, r77_1, r77_2, r77_3, r77_4, r77_5, r77_6) =>
                     if (decide (r70_0 ≥ (0 : Int))) = true then
                      if ((decide ((0 : Int) ≤ r70_0)) && (decide (r70_0 < ((r76_3.length : Nat) : Int)))) = true then
                       if (decide (r70_0.toNat < r76_3.length)) = true then
                        ((Go.Sx.runLoop law08_TablesSpans_b14 (p0, ((0 : Int), ([(r71_0, false), (r72_0, false), (r73_0, false), (r74_0, false), (r75_0, r76_0), (r77_0, (r76_3.getD r70_0.toNat ((0 : Int), ([], (false, false)))).2.2.1)], r73_1))))).bind fun r78_0 =>
                         match r78_0 with
                         | .inl (r79_0, r79_1) =>
                          some (r79_0, r79_1)
                         | .inr r80_0 =>
                          some (true, r80_0)
                       else
                        none
                      else
                       none
                     else
                      ((Go.Sx.runLoop law08_TablesSpans_b14 (p0, ((0 : Int), ([(r71_0, false), (r72_0, false), (r73_0, false), (r74_0, false), (r75_0, r76_0), (r77_0, false)], r73_1))))).bind fun r81_0 =>
                       match r81_0 with
                       | .inl (r82_0, r82_1) =>
                        some (r82_0, r82_1)
                       | .inr r83_0 =>
                        some (true, r83_0)
           else
            none
          else
           none
         else
          ((Go.Tx.ref08_Tables_Line p0 true r69_6 r69_7 r69_8 r69_9 r69_10 r69_11)).bind fun (r84_0, r84_1, r84_2, r84_3, r84_4, r84_5, r84_6) =>
           ((Go.Tx.tables_Tables_Assigned all2 r2_0 r2_1 r2_2 r2_3 r2_4 r2_5)).bind fun (r85_0, r85_1, r85_2, r85_3, r85_4, r85_5, r85_6) =>
            ((Go.Tx.tables_Tables_Cats l0 r85_1 r85_2 r85_3 r85_4 r85_5 r85_6)).bind fun (r86_0, r86_1, r86_2, r86_3, r86_4, r86_5, r86_6, r86_7) =>
             ((Go.Tx.tables_Tables_Sides r86_1 r86_2 r86_3 r86_4 r86_5 r86_6 r86_7)).bind fun (r87_0, r87_1, r87_2, r87_3, r87_4, r87_5, r87_6, r87_7) =>
              ((Go.Tx.tables_Tables_Joins (ByteArray.mk (List.toArray [])) r87_2 r87_3 r87_4 r87_5 r87_6 r87_7)).bind fun (r88_0, r88_1, r88_2, r88_3, r88_4, r88_5, r88_6) =>
               ((Go.Tx.tables_Tables_Set (ByteArray.mk (List.toArray [])) r88_1 r88_2 r88_3 r88_4 r88_5 r88_6)).bind fun (r89_0, r89_1, r89_2, r89_3, r89_4, r89_5, r89_6) =>
                ((Go.Tx.ref08_Tables_Set (ByteArray.mk (List.toArray [])) p0 r84_1 r84_2 r84_3 r84_4 r84_5 r84_6)).bind fun (r90_0, r90_1, r90_2, r90_3, r90_4, r90_5, r90_6) =>
                 ((Go.Tx.tables_Tables_Alike r89_2 r89_3 r89_4 r89_5 r89_6 r89_1)).bind fun (r91_0, r91_1, r91_2, r91_3, r91_4, r91_5, r91_6) =>
                  if (decide (r84_0 ≥ (0 : Int))) = true then
                   if ((decide ((0 : Int) ≤ r84_0)) && (decide (r84_0 < ((r90_3.length : Nat) : Int)))) = true then
                    if (decide (r84_0.toNat < r90_3.length)) = true then
                     ((Go.Sx.runLoop law08_TablesSpans_b14 (p0, ((0 : Int), ([(r85_0, false), (r86_0, false), (r87_0, false), (r88_0, false), (r89_0, r90_0), (r91_0, (r90_3.getD r84_0.toNat ((0 : Int), ([], (false, false)))).2.2.1)], r87_1))))).bind fun r92_0 =>
                      match r92_0 with
                      | .inl (r93_0, r93_1) =>
                       some (r93_0, r93_1)
                      | .inr r94_0 =>
                       some (true, r94_0)
                    else
                     none
                   else
                    none
                  else
                   ((Go.Sx.runLoop law08_TablesSpans_b14 (p0, ((0 : Int), ([(r85_0, false), (r86_0, false), (r87_0, false), (r88_0, false), (r89_0, r90_0), (r91_0, false)], r87_1))))).bind fun r95_0 =>
                    match r95_0 with
                    | .inl (r96_0, r96_1) =>
                     some (r96_0, r96_1)
                    | .inr r97_0 =>
                     some (true, r97_0)
end Go.Tx
