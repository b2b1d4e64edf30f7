/- Part 15 of the proof of the statement that the last part names; it asks for no condition of its own. Here: GenCh, Big, GenT, GenRA, GenR2A, GenR3A, GenR4A, GenPA. -/
import Derived.Test.YtgkfbembnlgahaaGreatDoorQae
import Derived.Test.YtgkfbembnlgahaaGreatDoorProg
set_option linter.unusedVariables false
set_option maxRecDepth 100000
set_option linter.all false
namespace Go.Tx
open Go Go.Sx
noncomputable def chart_cutLeft_b6 : ByteArray × ByteArray × Int × Int × Bool × ByteArray × Nat × ByteArray × Nat → Option ((ByteArray × ByteArray × Int × Int × Bool × ByteArray × Nat × ByteArray × Nat) ⊕ ((ByteArray × ByteArray × Int × Bool × ByteArray × Nat))) := fun
  | (s0, set1, i5, c6, in7, s111, p111, s117, p117) =>
  if (decide (p117 < s117.size)) = true then
   if in7 = true then
    some (.inl (s0, (set1, (i5, (c6, (true, (s111, (p111, (s117, (p117 + (Go.Utf8.decode s117 p117).2))))))))))
   else
    some (.inl (s0, (set1, (i5, (c6, ((decide (c6 = (((Go.Utf8.decode s117 p117).1 : Nat) : Int))), (s111, (p111, (s117, (p117 + (Go.Utf8.decode s117 p117).2))))))))))
  else
   some (.inr (s0, (set1, (i5, (in7, (s111, p111))))))
noncomputable def chart_cutLeft_b2 : ByteArray × ByteArray × ByteArray × Nat → Option ((ByteArray × ByteArray × ByteArray × Nat) ⊕ (Unit ⊕ ByteArray)) := fun
  | (s0, set1, s111, p111) =>
  if (decide (p111 < s111.size)) = true then
   ((Go.Sx.runLoop chart_cutLeft_b6 (s0, (set1, (((p111 : Nat) : Int), ((((Go.Utf8.decode s111 p111).1 : Nat) : Int), (false, (s111, ((p111 + (Go.Utf8.decode s111 p111).2), (set1, 0)))))))))).bind fun (r0_0, r0_1, r0_2, r0_3, r0_4, r0_5) =>
    if (!r0_3) = true then
     if ((decide ((0 : Int) ≤ r0_2)) && (decide (r0_2 ≤ ((r0_0.size : Nat) : Int)))) = true then
      some (.inr (.inr (ByteArray.extract r0_0 r0_2.toNat r0_0.size)))
     else
      none
    else
     some (.inl (r0_0, (r0_1, (r0_4, r0_5))))
  else
   some (.inr (.inl ()))
noncomputable def chart_cutLeft (s0 : ByteArray) (set1 : ByteArray) : Option (ByteArray) :=
  ((Go.Sx.runLoop chart_cutLeft_b2 (s0, (set1, (s0, 0))))).bind fun r0_0 =>
   match r0_0 with
   | .inl _ =>
    some (ByteArray.mk (List.toArray []))
   | .inr r2_0 =>
    some r2_0
noncomputable def chart_cutRight_b5 : ByteArray × ByteArray × Int × Int × Bool × ByteArray × Nat → Option ((ByteArray × ByteArray × Int × Int × Bool × ByteArray × Nat) ⊕ ((ByteArray × ByteArray × Int × Bool))) := fun
  | (s0, set1, c5, n6, in7, s119, p119) =>
  if (decide (p119 < s119.size)) = true then
   if in7 = true then
    some (.inl (s0, (set1, (c5, (n6, (true, (s119, (p119 + (Go.Utf8.decode s119 p119).2))))))))
   else
    some (.inl (s0, (set1, (c5, (n6, ((decide (c5 = (((Go.Utf8.decode s119 p119).1 : Nat) : Int))), (s119, (p119 + (Go.Utf8.decode s119 p119).2))))))))
  else
   some (.inr (s0, (set1, (n6, in7))))
noncomputable def chart_cutRight_b1 : ByteArray × ByteArray → Option ((ByteArray × ByteArray) ⊕ (ByteArray ⊕ ByteArray)) := fun
  | (s0, set1) =>
  if (decide (((s0.size : Nat) : Int) > (0 : Int))) = true then
   ((Go.Tx.utf8_DecodeLastRuneInString s0)).bind fun (r0_0, r0_1) =>
    ((Go.Sx.runLoop chart_cutRight_b5 (s0, (set1, (r0_0, (r0_1, (false, (set1, 0)))))))).bind fun (r1_0, r1_1, r1_2, r1_3) =>
     if (!r1_3) = true then
      some (.inr (.inr r1_0))
     else
      if ((decide ((0 : Int) ≤ (Go.IntKind.wrap .i64 (((r1_0.size : Nat) : Int) - r1_2)))) && (decide ((Go.IntKind.wrap .i64 (((r1_0.size : Nat) : Int) - r1_2)) ≤ ((r1_0.size : Nat) : Int)))) = true then
       some (.inl ((ByteArray.extract r1_0 0 (Go.IntKind.wrap .i64 (((r1_0.size : Nat) : Int) - r1_2)).toNat), r1_1))
      else
       none
  else
   some (.inr (.inl s0))
noncomputable def chart_cutRight (s0 : ByteArray) (set1 : ByteArray) : Option (ByteArray) :=
  ((Go.Sx.runLoop chart_cutRight_b1 (s0, set1))).bind fun r0_0 =>
   match r0_0 with
   | .inl r1_0 =>
    some r1_0
   | .inr r2_0 =>
    some r2_0
noncomputable def chart_made (s0 : ByteArray) (signs1 : ByteArray) (least2 : Int) (most3 : Int) : Option (Bool) :=
  if (decide (((s0.size : Nat) : Int) ≥ least2)) = true then
   if (decide (((s0.size : Nat) : Int) ≤ most3)) = true then
    ((Go.Tx.chart_cutLeft s0 signs1)).bind fun r0_0 =>
     ((Go.Tx.chart_cutRight r0_0 signs1)).bind fun r1_0 =>
      some (List.beq (ByteArray.toList r1_0) (ByteArray.toList (ByteArray.mk (List.toArray []))))
   else
    some false
  else
   some false
noncomputable def internal_strconv_lower (c0 : Int) : Option (Int) :=
  some (Go.IntKind.wrap .u8 (((BitVec.toNat (BitVec.or (BitVec.ofInt 8 c0) (BitVec.ofInt 8 (32 : Int)))) : Nat) : Int))
noncomputable def internal_strconv_ParseUint_b36 : Bool × ByteArray × Bool × Int × Int × Int × List (Int) → Option ((Bool × ByteArray × Bool × Int × Int × Int × List (Int)) ⊕ (Int ⊕ (ByteArray × Bool × Int))) := fun
  | (base08, s09, underscores12, n13, t100, t101, l199) =>
  if (decide (t101 < t100)) = true then
   if ((decide ((0 : Int) ≤ t101)) && (decide (t101 < ((l199.length : Nat) : Int)))) = true then
    if (decide (t101.toNat < l199.length)) = true then
     if (decide ((l199.getD t101.toNat (0 : Int)) = (95 : Int))) = true then
      if base08 = true then
       some (.inl (base08, (s09, (true, (n13, (t100, ((Go.IntKind.wrap .i64 (t101 + (1 : Int))), l199)))))))
      else
       if (decide ((48 : Int) ≤ (l199.getD t101.toNat (0 : Int)))) = true then
        if (decide ((l199.getD t101.toNat (0 : Int)) ≤ (57 : Int))) = true then
         if (decide ((Go.IntKind.wrap .u8 ((l199.getD t101.toNat (0 : Int)) - (48 : Int))) ≥ (16 : Int))) = true then
          some (.inr (.inl (0 : Int)))
         else
          if (decide (n13 ≥ (1152921504606846976 : Int))) = true then
           some (.inr (.inl (4294967295 : Int)))
          else
           if (decide ((Go.IntKind.wrap .u64 ((Go.IntKind.wrap .u64 (n13 * (16 : Int))) + (Go.IntKind.wrap .u64 (Go.IntKind.wrap .u8 ((l199.getD t101.toNat (0 : Int)) - (48 : Int)))))) < (Go.IntKind.wrap .u64 (n13 * (16 : Int))))) = true then
            some (.inr (.inl (4294967295 : Int)))
           else
            if (decide ((Go.IntKind.wrap .u64 ((Go.IntKind.wrap .u64 (n13 * (16 : Int))) + (Go.IntKind.wrap .u64 (Go.IntKind.wrap .u8 ((l199.getD t101.toNat (0 : Int)) - (48 : Int)))))) > (4294967295 : Int))) = true then
             some (.inr (.inl (4294967295 : Int)))
            else
             some (.inl (base08, (s09, (underscores12, ((Go.IntKind.wrap .u64 ((Go.IntKind.wrap .u64 (n13 * (16 : Int))) + (Go.IntKind.wrap .u64 (Go.IntKind.wrap .u8 ((l199.getD t101.toNat (0 : Int)) - (48 : Int)))))), (t100, ((Go.IntKind.wrap .i64 (t101 + (1 : Int))), l199)))))))
        else
         ((Go.Tx.internal_strconv_lower (l199.getD t101.toNat (0 : Int)))).bind fun r0_0 =>
          if (decide ((97 : Int) ≤ r0_0)) = true then
           ((Go.Tx.internal_strconv_lower (l199.getD t101.toNat (0 : Int)))).bind fun r1_0 =>
            if (decide (r1_0 ≤ (122 : Int))) = true then
             ((Go.Tx.internal_strconv_lower (l199.getD t101.toNat (0 : Int)))).bind fun r2_0 =>
              if (decide ((Go.IntKind.wrap .u8 ((Go.IntKind.wrap .u8 (r2_0 - (97 : Int))) + (10 : Int))) ≥ (16 : Int))) = true then
               some (.inr (.inl (0 : Int)))
              else
               if (decide (n13 ≥ (1152921504606846976 : Int))) = true then
                some (.inr (.inl (4294967295 : Int)))
               else
                if (decide ((Go.IntKind.wrap .u64 ((Go.IntKind.wrap .u64 (n13 * (16 : Int))) + (Go.IntKind.wrap .u64 (Go.IntKind.wrap .u8 ((Go.IntKind.wrap .u8 (r2_0 - (97 : Int))) + (10 : Int)))))) < (Go.IntKind.wrap .u64 (n13 * (16 : Int))))) = true then
                 some (.inr (.inl (4294967295 : Int)))
                else
                 if (decide ((Go.IntKind.wrap .u64 ((Go.IntKind.wrap .u64 (n13 * (16 : Int))) + (Go.IntKind.wrap .u64 (Go.IntKind.wrap .u8 ((Go.IntKind.wrap .u8 (r2_0 - (97 : Int))) + (10 : Int)))))) > (4294967295 : Int))) = true then
                  some (.inr (.inl (4294967295 : Int)))
                 else
                  some (.inl (base08, (s09, (underscores12, ((Go.IntKind.wrap .u64 ((Go.IntKind.wrap .u64 (n13 * (16 : Int))) + (Go.IntKind.wrap .u64 (Go.IntKind.wrap .u8 ((Go.IntKind.wrap .u8 (r2_0 - (97 : Int))) + (10 : Int)))))), (t100, ((Go.IntKind.wrap .i64 (t101 + (1 : Int))), l199)))))))
            else
             some (.inr (.inl (0 : Int)))
          else
           some (.inr (.inl (0 : Int)))
       else
        ((Go.Tx.internal_strconv_lower (l199.getD t101.toNat (0 : Int)))).bind fun r3_0 =>
         if (decide ((97 : Int) ≤ r3_0)) = true then
          ((Go.Tx.internal_strconv_lower (l199.getD t101.toNat (0 : Int)))).bind fun r4_0 =>
           if (decide (r4_0 ≤ (122 : Int))) = true then
            ((Go.Tx.internal_strconv_lower (l199.getD t101.toNat (0 : Int)))).bind fun r5_0 =>
             if (decide ((Go.IntKind.wrap .u8 ((Go.IntKind.wrap .u8 (r5_0 - (97 : Int))) + (10 : Int))) ≥ (16 : Int))) = true then
              some (.inr (.inl (0 : Int)))
             else
              if (decide (n13 ≥ (1152921504606846976 : Int))) = true then
               some (.inr (.inl (4294967295 : Int)))
              else
               if (decide ((Go.IntKind.wrap .u64 ((Go.IntKind.wrap .u64 (n13 * (16 : Int))) + (Go.IntKind.wrap .u64 (Go.IntKind.wrap .u8 ((Go.IntKind.wrap .u8 (r5_0 - (97 : Int))) + (10 : Int)))))) < (Go.IntKind.wrap .u64 (n13 * (16 : Int))))) = true then
                some (.inr (.inl (4294967295 : Int)))
               else
                if (decide ((Go.IntKind.wrap .u64 ((Go.IntKind.wrap .u64 (n13 * (16 : Int))) + (Go.IntKind.wrap .u64 (Go.IntKind.wrap .u8 ((Go.IntKind.wrap .u8 (r5_0 - (97 : Int))) + (10 : Int)))))) > (4294967295 : Int))) = true then
                 some (.inr (.inl (4294967295 : Int)))
                else
                 some (.inl (base08, (s09, (underscores12, ((Go.IntKind.wrap .u64 ((Go.IntKind.wrap .u64 (n13 * (16 : Int))) + (Go.IntKind.wrap .u64 (Go.IntKind.wrap .u8 ((Go.IntKind.wrap .u8 (r5_0 - (97 : Int))) + (10 : Int)))))), (t100, ((Go.IntKind.wrap .i64 (t101 + (1 : Int))), l199)))))))
           else
            some (.inr (.inl (0 : Int)))
         else
          some (.inr (.inl (0 : Int)))
     else
      if (decide ((48 : Int) ≤ (l199.getD t101.toNat (0 : Int)))) = true then
       if (decide ((l199.getD t101.toNat (0 : Int)) ≤ (57 : Int))) = true then
        if (decide ((Go.IntKind.wrap .u8 ((l199.getD t101.toNat (0 : Int)) - (48 : Int))) ≥ (16 : Int))) = true then
         some (.inr (.inl (0 : Int)))
        else
         if (decide (n13 ≥ (1152921504606846976 : Int))) = true then
          some (.inr (.inl (4294967295 : Int)))
         else
          if (decide ((Go.IntKind.wrap .u64 ((Go.IntKind.wrap .u64 (n13 * (16 : Int))) + (Go.IntKind.wrap .u64 (Go.IntKind.wrap .u8 ((l199.getD t101.toNat (0 : Int)) - (48 : Int)))))) < (Go.IntKind.wrap .u64 (n13 * (16 : Int))))) = true then
           some (.inr (.inl (4294967295 : Int)))
          else
           if (decide ((Go.IntKind.wrap .u64 ((Go.IntKind.wrap .u64 (n13 * (16 : Int))) + (Go.IntKind.wrap .u64 (Go.IntKind.wrap .u8 ((l199.getD t101.toNat (0 : Int)) - (48 : Int)))))) > (4294967295 : Int))) = true then
            some (.inr (.inl (4294967295 : Int)))
           else
            some (.inl (base08, (s09, (underscores12, ((Go.IntKind.wrap .u64 ((Go.IntKind.wrap .u64 (n13 * (16 : Int))) + (Go.IntKind.wrap .u64 (Go.IntKind.wrap .u8 ((l199.getD t101.toNat (0 : Int)) - (48 : Int)))))), (t100, ((Go.IntKind.wrap .i64 (t101 + (1 : Int))), l199)))))))
       else
        ((Go.Tx.internal_strconv_lower (l199.getD t101.toNat (0 : Int)))).bind fun r6_0 =>
         if (decide ((97 : Int) ≤ r6_0)) = true then
          ((Go.Tx.internal_strconv_lower (l199.getD t101.toNat (0 : Int)))).bind fun r7_0 =>
           if (decide (r7_0 ≤ (122 : Int))) = true then
            ((Go.Tx.internal_strconv_lower (l199.getD t101.toNat (0 : Int)))).bind fun r8_0 =>
             if (decide ((Go.IntKind.wrap .u8 ((Go.IntKind.wrap .u8 (r8_0 - (97 : Int))) + (10 : Int))) ≥ (16 : Int))) = true then
              some (.inr (.inl (0 : Int)))
             else
              if (decide (n13 ≥ (1152921504606846976 : Int))) = true then
               some (.inr (.inl (4294967295 : Int)))
              else
               if (decide ((Go.IntKind.wrap .u64 ((Go.IntKind.wrap .u64 (n13 * (16 : Int))) + (Go.IntKind.wrap .u64 (Go.IntKind.wrap .u8 ((Go.IntKind.wrap .u8 (r8_0 - (97 : Int))) + (10 : Int)))))) < (Go.IntKind.wrap .u64 (n13 * (16 : Int))))) = true then
                some (.inr (.inl (4294967295 : Int)))
               else
                if (decide ((Go.IntKind.wrap .u64 ((Go.IntKind.wrap .u64 (n13 * (16 : Int))) + (Go.IntKind.wrap .u64 (Go.IntKind.wrap .u8 ((Go.IntKind.wrap .u8 (r8_0 - (97 : Int))) + (10 : Int)))))) > (4294967295 : Int))) = true then
                 some (.inr (.inl (4294967295 : Int)))
                else
                 some (.inl (base08, (s09, (underscores12, ((Go.IntKind.wrap .u64 ((Go.IntKind.wrap .u64 (n13 * (16 : Int))) + (Go.IntKind.wrap .u64 (Go.IntKind.wrap .u8 ((Go.IntKind.wrap .u8 (r8_0 - (97 : Int))) + (10 : Int)))))), (t100, ((Go.IntKind.wrap .i64 (t101 + (1 : Int))), l199)))))))
           else
            some (.inr (.inl (0 : Int)))
         else
          some (.inr (.inl (0 : Int)))
      else
       ((Go.Tx.internal_strconv_lower (l199.getD t101.toNat (0 : Int)))).bind fun r9_0 =>
        if (decide ((97 : Int) ≤ r9_0)) = true then
         ((Go.Tx.internal_strconv_lower (l199.getD t101.toNat (0 : Int)))).bind fun r10_0 =>
          if (decide (r10_0 ≤ (122 : Int))) = true then
           ((Go.Tx.internal_strconv_lower (l199.getD t101.toNat (0 : Int)))).bind fun r11_0 =>
            if (decide ((Go.IntKind.wrap .u8 ((Go.IntKind.wrap .u8 (r11_0 - (97 : Int))) + (10 : Int))) ≥ (16 : Int))) = true then
             some (.inr (.inl (0 : Int)))
            else
             if (decide (n13 ≥ (1152921504606846976 : Int))) = true then
              some (.inr (.inl (4294967295 : Int)))
             else
              if (decide ((Go.IntKind.wrap .u64 ((Go.IntKind.wrap .u64 (n13 * (16 : Int))) + (Go.IntKind.wrap .u64 (Go.IntKind.wrap .u8 ((Go.IntKind.wrap .u8 (r11_0 - (97 : Int))) + (10 : Int)))))) < (Go.IntKind.wrap .u64 (n13 * (16 : Int))))) = true then
               some (.inr (.inl (4294967295 : Int)))
              else
               if (decide ((Go.IntKind.wrap .u64 ((Go.IntKind.wrap .u64 (n13 * (16 : Int))) + (Go.IntKind.wrap .u64 (Go.IntKind.wrap .u8 ((Go.IntKind.wrap .u8 (r11_0 - (97 : Int))) + (10 : Int)))))) > (4294967295 : Int))) = true then
                some (.inr (.inl (4294967295 : Int)))
               else
                some (.inl (base08, (s09, (underscores12, ((Go.IntKind.wrap .u64 ((Go.IntKind.wrap .u64 (n13 * (16 : Int))) + (Go.IntKind.wrap .u64 (Go.IntKind.wrap .u8 ((Go.IntKind.wrap .u8 (r11_0 - (97 : Int))) + (10 : Int)))))), (t100, ((Go.IntKind.wrap .i64 (t101 + (1 : Int))), l199)))))))
          else
           some (.inr (.inl (0 : Int)))
        else
         some (.inr (.inl (0 : Int)))
    else
     none
   else
    none
  else
   some (.inr (.inr (s09, (underscores12, n13))))
noncomputable def internal_strconv_ParseUint (s0 : ByteArray) : Option (Int ⊕ Int) :=
  if (List.beq (ByteArray.toList s0) (ByteArray.toList (ByteArray.mk (List.toArray [])))) = true then
   some (.inl (0 : Int))
  else
   if (decide (s0.size ≤ 9223372036854775807)) = true then
    ((Go.Sx.runLoop internal_strconv_ParseUint_b36 (false, (s0, (false, ((0 : Int), ((((List.map (fun (x4 : UInt8) => ((x4.toNat : Nat) : Int)) s0.data.toList).length : Nat) : Int), ((0 : Int), (List.map (fun (x4 : UInt8) => ((x4.toNat : Nat) : Int)) s0.data.toList))))))))).bind fun r0_0 =>
     match r0_0 with
     | .inl r1_0 =>
      some (.inl r1_0)
     | .inr (r2_0, r2_1, r2_2) =>
      if r2_1 = true then
       none
      else
       some (.inr r2_2)
   else
    none
noncomputable def strconv_ParseUint (s0 : ByteArray) : Option (Int) :=
  ((Go.Tx.internal_strconv_ParseUint s0)).bind fun r0_0 =>
   match r0_0 with
   | .inl r1_0 =>
    none
   | .inr r2_0 =>
    some r2_0
noncomputable def chart_point (s0 : ByteArray) : Option ((Int × Bool)) :=
  ((Go.Tx.chart_made s0 (ByteArray.mk (List.toArray [(48 : UInt8), (49 : UInt8), (50 : UInt8), (51 : UInt8), (52 : UInt8), (53 : UInt8), (54 : UInt8), (55 : UInt8), (56 : UInt8), (57 : UInt8), (65 : UInt8), (66 : UInt8), (67 : UInt8), (68 : UInt8), (69 : UInt8), (70 : UInt8)])) (4 : Int) (6 : Int))).bind fun r0_0 =>
   if (!r0_0) = true then
    some ((0 : Int), false)
   else
    if (decide (((s0.size : Nat) : Int) > (4 : Int))) = true then
     if (decide ((0 : Int) < ((s0.size : Nat) : Int))) = true then
      if (decide ((((s0.data.toList.getD 0 (0 : UInt8)).toNat : Nat) : Int) = (48 : Int))) = true then
       some ((0 : Int), false)
      else
       ((Go.Tx.strconv_ParseUint s0)).bind fun r1_0 =>
        some ((Go.IntKind.wrap .u32 r1_0), (decide (r1_0 ≤ (1114111 : Int))))
     else
      none
    else
     ((Go.Tx.strconv_ParseUint s0)).bind fun r2_0 =>
      some ((Go.IntKind.wrap .u32 r2_0), (decide (r2_0 ≤ (1114111 : Int))))
noncomputable def chart_span (a0 : ByteArray) (b1 : ByteArray) : Option ((Bool × Int × Int)) :=
  ((Go.Tx.chart_point a0)).bind fun (r0_0, r0_1) =>
   ((Go.Tx.chart_point b1)).bind fun (r1_0, r1_1) =>
    if r0_1 = true then
     if r1_1 = true then
      some ((decide (r0_0 ≤ r1_0)), (r0_0, r1_0))
     else
      some (false, (r0_0, r1_0))
    else
     some (false, (r0_0, r1_0))
noncomputable def chart_Ranges_1_1 (r0_0 : Int) (r0_1 : Int) (r0_2 : ByteArray) (r0_3 : ByteArray) (r0_4 : ByteArray) (r0_5 : Bool) : Option ((Int × Int)) :=
  some (r0_0, r0_1)
noncomputable def chart_behind_Range (s1_0 : Int) (s1_1 : Int) (l0 : List (Int × Int × ByteArray × ByteArray × ByteArray × Bool)) : Option ((Bool × List (Int × Int × ByteArray × ByteArray × ByteArray × Bool))) :=
  if (decide (((l0.length : Nat) : Int) = (0 : Int))) = true then
   some (true, l0)
  else
   if ((decide ((0 : Int) ≤ (Go.IntKind.wrap .i64 (((l0.length : Nat) : Int) - (1 : Int))))) && (decide ((Go.IntKind.wrap .i64 (((l0.length : Nat) : Int) - (1 : Int))) < ((l0.length : Nat) : Int)))) = true then
    if (decide ((Go.IntKind.wrap .i64 (((l0.length : Nat) : Int) - (1 : Int))).toNat < l0.length)) = true then
     ((Go.Tx.chart_Ranges_1_1 (l0.getD (Go.IntKind.wrap .i64 (((l0.length : Nat) : Int) - (1 : Int))).toNat ((0 : Int), ((0 : Int), (ByteArray.empty, (ByteArray.empty, (ByteArray.empty, false)))))).1 (l0.getD (Go.IntKind.wrap .i64 (((l0.length : Nat) : Int) - (1 : Int))).toNat ((0 : Int), ((0 : Int), (ByteArray.empty, (ByteArray.empty, (ByteArray.empty, false)))))).2.1 (l0.getD (Go.IntKind.wrap .i64 (((l0.length : Nat) : Int) - (1 : Int))).toNat ((0 : Int), ((0 : Int), (ByteArray.empty, (ByteArray.empty, (ByteArray.empty, false)))))).2.2.1 (l0.getD (Go.IntKind.wrap .i64 (((l0.length : Nat) : Int) - (1 : Int))).toNat ((0 : Int), ((0 : Int), (ByteArray.empty, (ByteArray.empty, (ByteArray.empty, false)))))).2.2.2.1 (l0.getD (Go.IntKind.wrap .i64 (((l0.length : Nat) : Int) - (1 : Int))).toNat ((0 : Int), ((0 : Int), (ByteArray.empty, (ByteArray.empty, (ByteArray.empty, false)))))).2.2.2.2.1 (l0.getD (Go.IntKind.wrap .i64 (((l0.length : Nat) : Int) - (1 : Int))).toNat ((0 : Int), ((0 : Int), (ByteArray.empty, (ByteArray.empty, (ByteArray.empty, false)))))).2.2.2.2.2)).bind fun (r0_0, r0_1) =>
      some ((decide (r0_1 < s1_0)), l0)
    else
     none
   else
    none
noncomputable def chart_spanned_Range (count1 : Int) (l0 : List (ByteArray)) (l1 : List (Int × Int × ByteArray × ByteArray × ByteArray × Bool)) : Option ((Bool × Int × Int × List (ByteArray) × List (Int × Int × ByteArray × ByteArray × ByteArray × Bool))) :=
  if (((l0.length : Nat) : Int) != count1) = true then
   some (false, ((0 : Int), ((0 : Int), (l0, l1))))
  else
   if (decide ((0 : Int) < ((l0.length : Nat) : Int))) = true then
    if (decide (0 < l0.length)) = true then
     if (decide ((1 : Int) < ((l0.length : Nat) : Int))) = true then
      if (decide (1 < l0.length)) = true then
       ((Go.Tx.chart_span (l0.getD 0 ByteArray.empty) (l0.getD 1 ByteArray.empty))).bind fun (r0_0, r0_1, r0_2) =>
        if r0_0 = true then
         ((Go.Tx.chart_behind_Range r0_1 r0_2 l1)).bind fun (r1_0, r1_1) =>
          some (r1_0, (r0_1, (r0_2, (l0, r1_1))))
        else
         some (false, (r0_1, (r0_2, (l0, l1))))
      else
       none
     else
      none
    else
     none
   else
    none
noncomputable def chart_Ranges_1 (l0 : List (ByteArray)) (l1 : List (Int × Int × ByteArray × ByteArray × ByteArray × Bool)) : Option ((Bool × Int × Int × ByteArray × ByteArray × ByteArray × Bool × List (ByteArray) × List (Int × Int × ByteArray × ByteArray × ByteArray × Bool))) :=
  ((Go.Tx.chart_spanned_Range (6 : Int) l0 l1)).bind fun (r0_0, r0_1, r0_2, r0_3, r0_4) =>
   if (!r0_0) = true then
    some (false, ((0 : Int), ((0 : Int), (ByteArray.empty, (ByteArray.empty, (ByteArray.empty, (false, (r0_3, r0_4))))))))
   else
    if (decide ((2 : Int) < ((r0_3.length : Nat) : Int))) = true then
     if (decide (2 < r0_3.length)) = true then
      if ((((r0_3.getD 2 ByteArray.empty).size : Nat) : Int) != (2 : Int)) = true then
       some (false, ((0 : Int), ((0 : Int), (ByteArray.empty, (ByteArray.empty, (ByteArray.empty, (false, (r0_3, r0_4))))))))
      else
       if (decide ((2 : Int) < ((r0_3.length : Nat) : Int))) = true then
        if (decide (2 < r0_3.length)) = true then
         if (decide ((1 : Int) ≤ (((r0_3.getD 2 ByteArray.empty).size : Nat) : Int))) = true then
          ((Go.Tx.chart_made (ByteArray.extract (r0_3.getD 2 ByteArray.empty) 0 1) (ByteArray.mk (List.toArray [(65 : UInt8), (66 : UInt8), (67 : UInt8), (68 : UInt8), (69 : UInt8), (70 : UInt8), (71 : UInt8), (72 : UInt8), (73 : UInt8), (74 : UInt8), (75 : UInt8), (76 : UInt8), (77 : UInt8), (78 : UInt8), (79 : UInt8), (80 : UInt8), (81 : UInt8), (82 : UInt8), (83 : UInt8), (84 : UInt8), (85 : UInt8), (86 : UInt8), (87 : UInt8), (88 : UInt8), (89 : UInt8), (90 : UInt8)])) (1 : Int) (1 : Int))).bind fun r1_0 =>
           if (!r1_0) = true then
            some (false, ((0 : Int), ((0 : Int), (ByteArray.empty, (ByteArray.empty, (ByteArray.empty, (false, (r0_3, r0_4))))))))
           else
            if (decide ((2 : Int) < ((r0_3.length : Nat) : Int))) = true then
             if (decide (2 < r0_3.length)) = true then
              if (decide ((1 : Int) ≤ (((r0_3.getD 2 ByteArray.empty).size : Nat) : Int))) = true then
               ((Go.Tx.chart_made (ByteArray.extract (r0_3.getD 2 ByteArray.empty) 1 (r0_3.getD 2 ByteArray.empty).size) (ByteArray.mk (List.toArray [(97 : UInt8), (98 : UInt8), (99 : UInt8), (100 : UInt8), (101 : UInt8), (102 : UInt8), (103 : UInt8), (104 : UInt8), (105 : UInt8), (106 : UInt8), (107 : UInt8), (108 : UInt8), (109 : UInt8), (110 : UInt8), (111 : UInt8), (112 : UInt8), (113 : UInt8), (114 : UInt8), (115 : UInt8), (116 : UInt8), (117 : UInt8), (118 : UInt8), (119 : UInt8), (120 : UInt8), (121 : UInt8), (122 : UInt8)])) (1 : Int) (1 : Int))).bind fun r2_0 =>
                if (!r2_0) = true then
                 some (false, ((0 : Int), ((0 : Int), (ByteArray.empty, (ByteArray.empty, (ByteArray.empty, (false, (r0_3, r0_4))))))))
                else
                 if (decide ((3 : Int) < ((r0_3.length : Nat) : Int))) = true then
                  if (decide (3 < r0_3.length)) = true then
                   ((Go.Tx.chart_made (r0_3.getD 3 ByteArray.empty) (ByteArray.mk (List.toArray [(65 : UInt8), (66 : UInt8), (67 : UInt8), (68 : UInt8), (69 : UInt8), (70 : UInt8), (71 : UInt8), (72 : UInt8), (73 : UInt8), (74 : UInt8), (75 : UInt8), (76 : UInt8), (77 : UInt8), (78 : UInt8), (79 : UInt8), (80 : UInt8), (81 : UInt8), (82 : UInt8), (83 : UInt8), (84 : UInt8), (85 : UInt8), (86 : UInt8), (87 : UInt8), (88 : UInt8), (89 : UInt8), (90 : UInt8)])) (1 : Int) (3 : Int))).bind fun r3_0 =>
                    if (!r3_0) = true then
                     some (false, ((0 : Int), ((0 : Int), (ByteArray.empty, (ByteArray.empty, (ByteArray.empty, (false, (r0_3, r0_4))))))))
                    else
                     if (decide ((4 : Int) < ((r0_3.length : Nat) : Int))) = true then
                      if (decide (4 < r0_3.length)) = true then
                       ((Go.Tx.chart_made (r0_3.getD 4 ByteArray.empty) (ByteArray.mk (List.toArray [(85 : UInt8), (68 : UInt8), (82 : UInt8), (76 : UInt8), (67 : UInt8), (84 : UInt8)])) (1 : Int) (1 : Int))).bind fun r4_0 =>
                        if (!r4_0) = true then
                         some (false, ((0 : Int), ((0 : Int), (ByteArray.empty, (ByteArray.empty, (ByteArray.empty, (false, (r0_3, r0_4))))))))
                        else
                         if (decide ((5 : Int) < ((r0_3.length : Nat) : Int))) = true then
                          if (decide (5 < r0_3.length)) = true then
                           if (!(List.beq (ByteArray.toList (r0_3.getD 5 ByteArray.empty)) (ByteArray.toList (ByteArray.mk (List.toArray [(111 : UInt8), (108 : UInt8), (100 : UInt8)]))))) = true then
                            if (decide ((5 : Int) < ((r0_3.length : Nat) : Int))) = true then
                             if (decide (5 < r0_3.length)) = true then
                              if (!(List.beq (ByteArray.toList (r0_3.getD 5 ByteArray.empty)) (ByteArray.toList (ByteArray.mk (List.toArray [(110 : UInt8), (101 : UInt8), (119 : UInt8)]))))) = true then
                               some (false, ((0 : Int), ((0 : Int), (ByteArray.empty, (ByteArray.empty, (ByteArray.empty, (false, (r0_3, r0_4))))))))
                              else
                               if (decide ((2 : Int) < ((r0_3.length : Nat) : Int))) = true then
                                if (decide (2 < r0_3.length)) = true then
                                 if (decide ((3 : Int) < ((r0_3.length : Nat) : Int))) = true then
                                  if (decide (3 < r0_3.length)) = true then
                                   if (decide ((4 : Int) < ((r0_3.length : Nat) : Int))) = true then
                                    if (decide (4 < r0_3.length)) = true then
                                     if (decide ((5 : Int) < ((r0_3.length : Nat) : Int))) = true then
                                      if (decide (5 < r0_3.length)) = true then
                                       some (true, (r0_1, (r0_2, ((r0_3.getD 2 ByteArray.empty), ((r0_3.getD 3 ByteArray.empty), ((r0_3.getD 4 ByteArray.empty), ((List.beq (ByteArray.toList (r0_3.getD 5 ByteArray.empty)) (ByteArray.toList (ByteArray.mk (List.toArray [(110 : UInt8), (101 : UInt8), (119 : UInt8)])))), (r0_3, r0_4))))))))
                                      else
                                       none
                                     else
                                      none
                                    else
                                     none
                                   else
                                    none
                                  else
                                   none
                                 else
                                  none
                                else
                                 none
                               else
                                none
                             else
                              none
                            else
                             none
                           else
                            if (decide ((2 : Int) < ((r0_3.length : Nat) : Int))) = true then
                             if (decide (2 < r0_3.length)) = true then
                              if (decide ((3 : Int) < ((r0_3.length : Nat) : Int))) = true then
                               if (decide (3 < r0_3.length)) = true then
                                if (decide ((4 : Int) < ((r0_3.length : Nat) : Int))) = true then
                                 if (decide (4 < r0_3.length)) = true then
                                  if (decide ((5 : Int) < ((r0_3.length : Nat) : Int))) = true then
                                   if (decide (5 < r0_3.length)) = true then
                                    some (true, (r0_1, (r0_2, ((r0_3.getD 2 ByteArray.empty), ((r0_3.getD 3 ByteArray.empty), ((r0_3.getD 4 ByteArray.empty), ((List.beq (ByteArray.toList (r0_3.getD 5 ByteArray.empty)) (ByteArray.toList (ByteArray.mk (List.toArray [(110 : UInt8), (101 : UInt8), (119 : UInt8)])))), (r0_3, r0_4))))))))
                                   else
                                    none
                                  else
                                   none
                                 else
                                  none
                                else
                                 none
                               else
                                none
                              else
                               none
                             else
                              none
                            else
                             none
                          else
                           none
                         else
                          none
                      else
                       none
                     else
                      none
                  else
                   none
                 else
                  none
              else
               none
             else
              none
            else
             none
         else
          none
        else
         none
       else
        none
     else
      none
    else
     none
noncomputable def chart_read_Range_b5 : Int × Int × List (ByteArray) × List (Int × Int × ByteArray × ByteArray × ByteArray × Bool) → Option ((Int × Int × List (ByteArray) × List (Int × Int × ByteArray × ByteArray × ByteArray × Bool)) ⊕ ((List (Int × Int × ByteArray × ByteArray × ByteArray × Bool)) ⊕ (Int × Int))) := fun
  | (t16, t17, l1150, l5000) =>
  if (decide (t17 < t16)) = true then
   if ((decide ((0 : Int) ≤ t17)) && (decide (t17 < ((l1150.length : Nat) : Int)))) = true then
    if (decide (t17.toNat < l1150.length)) = true then
     ((Go.Tx.strings_Split (l1150.getD t17.toNat ByteArray.empty) (ByteArray.mk (List.toArray [(32 : UInt8)])))).bind fun r0_0 =>
      ((Go.Tx.chart_Ranges_1 r0_0 l5000)).bind fun (r1_0, r1_1, r1_2, r1_3, r1_4, r1_5, r1_6, r1_7, r1_8) =>
       if (!r1_0) = true then
        some (.inr (.inr ((3 : Int), (Go.IntKind.wrap .i64 (t17 + (1 : Int))))))
       else
        if (decide (((r1_8.length + [(r1_1, (r1_2, (r1_3, (r1_4, (r1_5, r1_6)))))].length) * 64) ≤ 140737488355328)) = true then
         some (.inl (t16, ((Go.IntKind.wrap .i64 (t17 + (1 : Int))), (l1150, (r1_8 ++ [(r1_1, (r1_2, (r1_3, (r1_4, (r1_5, r1_6)))))])))))
        else
         none
    else
     none
   else
    none
  else
   some (.inr (.inl l5000))
noncomputable def chart_read_Range (s0 : ByteArray) : Option ((Int × Int × List (Int × Int × ByteArray × ByteArray × ByteArray × Bool))) :=
  if (List.beq (ByteArray.toList s0) (ByteArray.toList (ByteArray.mk (List.toArray [])))) = true then
   some ((0 : Int), ((0 : Int), []))
  else
   ((Go.Tx.strings_Split s0 (ByteArray.mk (List.toArray [(10 : UInt8)])))).bind fun r0_0 =>
    ((Go.Sx.runLoop chart_read_Range_b5 (((r0_0.length : Nat) : Int), ((0 : Int), (r0_0, []))))).bind fun r1_0 =>
     match r1_0 with
     | .inl r2_0 =>
      some ((0 : Int), ((0 : Int), r2_0))
     | .inr (r3_0, r3_1) =>
      some (r3_0, (r3_1, []))
noncomputable def chart_Ranges (s0 : ByteArray) : Option ((Int × Int × List (Int × Int × ByteArray × ByteArray × ByteArray × Bool))) :=
  ((Go.Tx.chart_read_Range s0)).bind fun (r0_0, r0_1, r0_2) =>
   some (r0_0, (r0_1, r0_2))
noncomputable def chart_Classes_1_1 (x0_0 : Int) (x0_1 : Int) (x0_2 : Int) : Option ((Int × Int)) :=
  some (x0_0, x0_1)
noncomputable def chart_behind_Weight (s1_0 : Int) (s1_1 : Int) (l0 : List (Int × Int × Int)) : Option ((Bool × List (Int × Int × Int))) :=
  if (decide (((l0.length : Nat) : Int) = (0 : Int))) = true then
   some (true, l0)
  else
   if ((decide ((0 : Int) ≤ (Go.IntKind.wrap .i64 (((l0.length : Nat) : Int) - (1 : Int))))) && (decide ((Go.IntKind.wrap .i64 (((l0.length : Nat) : Int) - (1 : Int))) < ((l0.length : Nat) : Int)))) = true then
    if (decide ((Go.IntKind.wrap .i64 (((l0.length : Nat) : Int) - (1 : Int))).toNat < l0.length)) = true then
     ((Go.Tx.chart_Classes_1_1 (l0.getD (Go.IntKind.wrap .i64 (((l0.length : Nat) : Int) - (1 : Int))).toNat ((0 : Int), ((0 : Int), (0 : Int)))).1 (l0.getD (Go.IntKind.wrap .i64 (((l0.length : Nat) : Int) - (1 : Int))).toNat ((0 : Int), ((0 : Int), (0 : Int)))).2.1 (l0.getD (Go.IntKind.wrap .i64 (((l0.length : Nat) : Int) - (1 : Int))).toNat ((0 : Int), ((0 : Int), (0 : Int)))).2.2)).bind fun (r0_0, r0_1) =>
      some ((decide (r0_1 < s1_0)), l0)
    else
     none
   else
    none
noncomputable def chart_spanned_Weight (count1 : Int) (l0 : List (ByteArray)) (l1 : List (Int × Int × Int)) : Option ((Bool × Int × Int × List (ByteArray) × List (Int × Int × Int))) :=
  if (((l0.length : Nat) : Int) != count1) = true then
   some (false, ((0 : Int), ((0 : Int), (l0, l1))))
  else
   if (decide ((0 : Int) < ((l0.length : Nat) : Int))) = true then
    if (decide (0 < l0.length)) = true then
     if (decide ((1 : Int) < ((l0.length : Nat) : Int))) = true then
      if (decide (1 < l0.length)) = true then
       ((Go.Tx.chart_span (l0.getD 0 ByteArray.empty) (l0.getD 1 ByteArray.empty))).bind fun (r0_0, r0_1, r0_2) =>
        if r0_0 = true then
         ((Go.Tx.chart_behind_Weight r0_1 r0_2 l1)).bind fun (r1_0, r1_1) =>
          some (r1_0, (r0_1, (r0_2, (l0, r1_1))))
        else
         some (false, (r0_1, (r0_2, (l0, l1))))
      else
       none
     else
      none
    else
     none
   else
    none
noncomputable def internal_strconv_Atoi_b10 : ByteArray × Int × Int × Int × List (Int) → Option ((ByteArray × Int × Int × Int × List (Int)) ⊕ (Int ⊕ (ByteArray × Int))) := fun
  | (s05, n6, t48, t49, l147) =>
  if (decide (t49 < t48)) = true then
   if ((decide ((0 : Int) ≤ t49)) && (decide (t49 < ((l147.length : Nat) : Int)))) = true then
    if (decide (t49.toNat < l147.length)) = true then
     if (decide ((Go.IntKind.wrap .u8 ((l147.getD t49.toNat (0 : Int)) - (48 : Int))) > (9 : Int))) = true then
      some (.inr (.inl (0 : Int)))
     else
      some (.inl (s05, ((Go.IntKind.wrap .i64 ((Go.IntKind.wrap .i64 (n6 * (10 : Int))) + (Go.IntKind.wrap .i64 (Go.IntKind.wrap .u8 ((l147.getD t49.toNat (0 : Int)) - (48 : Int)))))), (t48, ((Go.IntKind.wrap .i64 (t49 + (1 : Int))), l147)))))
    else
     none
   else
    none
  else
   some (.inr (.inr (s05, n6)))
noncomputable def internal_strconv_Atoi (s0 : ByteArray) : Option (Int ⊕ Int) :=
  if (decide ((0 : Int) < ((s0.size : Nat) : Int))) = true then
   if (decide (((s0.size : Nat) : Int) < (19 : Int))) = true then
    if (decide ((0 : Int) < ((s0.size : Nat) : Int))) = true then
     if (decide ((((s0.data.toList.getD 0 (0 : UInt8)).toNat : Nat) : Int) = (45 : Int))) = true then
      if (decide ((1 : Int) ≤ ((s0.size : Nat) : Int))) = true then
       if (decide ((((ByteArray.extract s0 1 s0.size).size : Nat) : Int) < (1 : Int))) = true then
        some (.inl (0 : Int))
       else
        if (decide ((ByteArray.extract s0 1 s0.size).size ≤ 9223372036854775807)) = true then
         ((Go.Sx.runLoop internal_strconv_Atoi_b10 (s0, ((0 : Int), ((((List.map (fun (x4 : UInt8) => ((x4.toNat : Nat) : Int)) (Array.append (Array.append (Array.extract Array.empty 0 0) (Array.extract s0.data 1 (1 + (s0.size - 1)))) (Array.extract Array.empty (0 + (if ((s0.size - 1) ≤ ((Array.size s0.data) - 1)) then (s0.size - 1) else ((Array.size s0.data) - 1))) 0)).toList).length : Nat) : Int), ((0 : Int), (List.map (fun (x4 : UInt8) => ((x4.toNat : Nat) : Int)) (Array.append (Array.append (Array.extract Array.empty 0 0) (Array.extract s0.data 1 (1 + (s0.size - 1)))) (Array.extract Array.empty (0 + (if ((s0.size - 1) ≤ ((Array.size s0.data) - 1)) then (s0.size - 1) else ((Array.size s0.data) - 1))) 0)).toList))))))).bind fun r0_0 =>
          match r0_0 with
          | .inl r1_0 =>
           some (.inl r1_0)
          | .inr (r2_0, r2_1) =>
           if (decide ((0 : Int) < ((r2_0.size : Nat) : Int))) = true then
            if (decide ((((r2_0.data.toList.getD 0 (0 : UInt8)).toNat : Nat) : Int) = (45 : Int))) = true then
             some (.inr (Go.IntKind.wrap .i64 ((0 : Int) - r2_1)))
            else
             some (.inr r2_1)
           else
            none
        else
         none
      else
       none
     else
      if (decide ((0 : Int) < ((s0.size : Nat) : Int))) = true then
       if (decide ((((s0.data.toList.getD 0 (0 : UInt8)).toNat : Nat) : Int) = (43 : Int))) = true then
        if (decide ((1 : Int) ≤ ((s0.size : Nat) : Int))) = true then
         if (decide ((((ByteArray.extract s0 1 s0.size).size : Nat) : Int) < (1 : Int))) = true then
          some (.inl (0 : Int))
         else
          if (decide ((ByteArray.extract s0 1 s0.size).size ≤ 9223372036854775807)) = true then
           ((Go.Sx.runLoop internal_strconv_Atoi_b10 (s0, ((0 : Int), ((((List.map (fun (x4 : UInt8) => ((x4.toNat : Nat) : Int)) (Array.append (Array.append (Array.extract Array.empty 0 0) (Array.extract s0.data 1 (1 + (s0.size - 1)))) (Array.extract Array.empty (0 + (if ((s0.size - 1) ≤ ((Array.size s0.data) - 1)) then (s0.size - 1) else ((Array.size s0.data) - 1))) 0)).toList).length : Nat) : Int), ((0 : Int), (List.map (fun (x4 : UInt8) => ((x4.toNat : Nat) : Int)) (Array.append (Array.append (Array.extract Array.empty 0 0) (Array.extract s0.data 1 (1 + (s0.size - 1)))) (Array.extract Array.empty (0 + (if ((s0.size - 1) ≤ ((Array.size s0.data) - 1)) then (s0.size - 1) else ((Array.size s0.data) - 1))) 0)).toList))))))).bind fun r3_0 =>
            match r3_0 with
            | .inl r4_0 =>
             some (.inl r4_0)
            | .inr (r5_0, r5_1) =>
             if (decide ((0 : Int) < ((r5_0.size : Nat) : Int))) = true then
              if (decide ((((r5_0.data.toList.getD 0 (0 : UInt8)).toNat : Nat) : Int) = (45 : Int))) = true then
               some (.inr (Go.IntKind.wrap .i64 ((0 : Int) - r5_1)))
              else
               some (.inr r5_1)
             else
              none
          else
           none
        else
         none
       else
        if (decide (s0.size ≤ 9223372036854775807)) = true then
         ((Go.Sx.runLoop internal_strconv_Atoi_b10 (s0, ((0 : Int), ((((List.map (fun (x4 : UInt8) => ((x4.toNat : Nat) : Int)) s0.data.toList).length : Nat) : Int), ((0 : Int), (List.map (fun (x4 : UInt8) => ((x4.toNat : Nat) : Int)) s0.data.toList))))))).bind fun r6_0 =>
          match r6_0 with
          | .inl r7_0 =>
           some (.inl r7_0)
          | .inr (r8_0, r8_1) =>
           if (decide ((0 : Int) < ((r8_0.size : Nat) : Int))) = true then
            if (decide ((((r8_0.data.toList.getD 0 (0 : UInt8)).toNat : Nat) : Int) = (45 : Int))) = true then
             some (.inr (Go.IntKind.wrap .i64 ((0 : Int) - r8_1)))
            else
             some (.inr r8_1)
           else
            none
        else
         none
      else
       none
    else
     none
   else
    none
  else
   none
noncomputable def strconv_Atoi (s0 : ByteArray) : Option (Int) :=
  ((Go.Tx.internal_strconv_Atoi s0)).bind fun r0_0 =>
   match r0_0 with
   | .inl r1_0 =>
    none
   | .inr r2_0 =>
    some r2_0
noncomputable def chart_Classes_1 (l0 : List (ByteArray)) (l1 : List (Int × Int × Int)) : Option ((Bool × Int × Int × Int × List (ByteArray) × List (Int × Int × Int))) :=
  ((Go.Tx.chart_spanned_Weight (3 : Int) l0 l1)).bind fun (r0_0, r0_1, r0_2, r0_3, r0_4) =>
   if (!r0_0) = true then
    some (false, ((0 : Int), ((0 : Int), ((0 : Int), (r0_3, r0_4)))))
   else
    if (decide ((2 : Int) < ((r0_3.length : Nat) : Int))) = true then
     if (decide (2 < r0_3.length)) = true then
      ((Go.Tx.chart_made (r0_3.getD 2 ByteArray.empty) (ByteArray.extract (ByteArray.mk (List.toArray [(48 : UInt8), (49 : UInt8), (50 : UInt8), (51 : UInt8), (52 : UInt8), (53 : UInt8), (54 : UInt8), (55 : UInt8), (56 : UInt8), (57 : UInt8), (65 : UInt8), (66 : UInt8), (67 : UInt8), (68 : UInt8), (69 : UInt8), (70 : UInt8)])) 0 10) (1 : Int) (3 : Int))).bind fun r1_0 =>
       if (!r1_0) = true then
        some (false, ((0 : Int), ((0 : Int), ((0 : Int), (r0_3, r0_4)))))
       else
        if (decide ((2 : Int) < ((r0_3.length : Nat) : Int))) = true then
         if (decide (2 < r0_3.length)) = true then
          if (decide ((0 : Int) < (((r0_3.getD 2 ByteArray.empty).size : Nat) : Int))) = true then
           if (decide (((((r0_3.getD 2 ByteArray.empty).data.toList.getD 0 (0 : UInt8)).toNat : Nat) : Int) = (48 : Int))) = true then
            some (false, ((0 : Int), ((0 : Int), ((0 : Int), (r0_3, r0_4)))))
           else
            if (decide ((2 : Int) < ((r0_3.length : Nat) : Int))) = true then
             if (decide (2 < r0_3.length)) = true then
              ((Go.Tx.strconv_Atoi (r0_3.getD 2 ByteArray.empty))).bind fun r2_0 =>
               some ((decide (r2_0 ≤ (254 : Int))), (r0_1, (r0_2, ((Go.IntKind.wrap .u32 r2_0), (r0_3, r0_4)))))
             else
              none
            else
             none
          else
           none
         else
          none
        else
         none
     else
      none
    else
     none
noncomputable def chart_read_Weight_b5 : Int × Int × List (ByteArray) × List (Int × Int × Int) → Option ((Int × Int × List (ByteArray) × List (Int × Int × Int)) ⊕ ((List (Int × Int × Int)) ⊕ (Int × Int))) := fun
  | (t16, t17, l1150, l5000) =>
  if (decide (t17 < t16)) = true then
   if ((decide ((0 : Int) ≤ t17)) && (decide (t17 < ((l1150.length : Nat) : Int)))) = true then
    if (decide (t17.toNat < l1150.length)) = true then
     ((Go.Tx.strings_Split (l1150.getD t17.toNat ByteArray.empty) (ByteArray.mk (List.toArray [(32 : UInt8)])))).bind fun r0_0 =>
      ((Go.Tx.chart_Classes_1 r0_0 l5000)).bind fun (r1_0, r1_1, r1_2, r1_3, r1_4, r1_5) =>
       if (!r1_0) = true then
        some (.inr (.inr ((3 : Int), (Go.IntKind.wrap .i64 (t17 + (1 : Int))))))
       else
        if (decide (((r1_5.length + [(r1_1, (r1_2, r1_3))].length) * 12) ≤ 140737488355328)) = true then
         some (.inl (t16, ((Go.IntKind.wrap .i64 (t17 + (1 : Int))), (l1150, (r1_5 ++ [(r1_1, (r1_2, r1_3))])))))
        else
         none
    else
     none
   else
    none
  else
   some (.inr (.inl l5000))
noncomputable def chart_read_Weight (s0 : ByteArray) : Option ((Int × Int × List (Int × Int × Int))) :=
  if (List.beq (ByteArray.toList s0) (ByteArray.toList (ByteArray.mk (List.toArray [])))) = true then
   some ((0 : Int), ((0 : Int), []))
  else
   ((Go.Tx.strings_Split s0 (ByteArray.mk (List.toArray [(10 : UInt8)])))).bind fun r0_0 =>
    ((Go.Sx.runLoop chart_read_Weight_b5 (((r0_0.length : Nat) : Int), ((0 : Int), (r0_0, []))))).bind fun r1_0 =>
     match r1_0 with
     | .inl r2_0 =>
      some ((0 : Int), ((0 : Int), r2_0))
     | .inr (r3_0, r3_1) =>
      some (r3_0, (r3_1, []))
noncomputable def chart_Classes (s0 : ByteArray) : Option ((Int × Int × List (Int × Int × Int))) :=
  ((Go.Tx.chart_read_Weight s0)).bind fun (r0_0, r0_1, r0_2) =>
   some (r0_0, (r0_1, r0_2))
noncomputable def chart_points_b3 : Int × Int × List (ByteArray) × List (Int) → Option ((Int × Int × List (ByteArray) × List (Int)) ⊕ ((Bool × List (ByteArray)) ⊕ (List (ByteArray) × List (Int)))) := fun
  | (t10, t11, l0, l5000) =>
  if (decide (t11 < t10)) = true then
   if ((decide ((0 : Int) ≤ t11)) && (decide (t11 < ((l0.length : Nat) : Int)))) = true then
    if (decide (t11.toNat < l0.length)) = true then
     ((Go.Tx.chart_point (l0.getD t11.toNat ByteArray.empty))).bind fun (r0_0, r0_1) =>
      if (!r0_1) = true then
       some (.inr (.inl (false, l0)))
      else
       if (decide (((l5000.length + [r0_0].length) * 4) ≤ 140737488355328)) = true then
        some (.inl (t10, ((Go.IntKind.wrap .i64 (t11 + (1 : Int))), (l0, (l5000 ++ [r0_0])))))
       else
        none
    else
     none
   else
    none
  else
   some (.inr (.inr (l0, l5000)))
noncomputable def chart_points (l0 : List (ByteArray)) : Option ((Bool × List (ByteArray) × List (Int))) :=
  ((Go.Sx.runLoop chart_points_b3 (((l0.length : Nat) : Int), ((0 : Int), (l0, []))))).bind fun r0_0 =>
   match r0_0 with
   | .inl (r1_0, r1_1) =>
    some (r1_0, (r1_1, []))
   | .inr (r2_0, r2_1) =>
    if (decide (((r2_0.length : Nat) : Int) > (0 : Int))) = true then
     some ((decide (((r2_0.length : Nat) : Int) ≤ (3 : Int))), (r2_0, r2_1))
    else
     some (false, (r2_0, r2_1))
noncomputable def chart_Decomps_1 (l0 : List (ByteArray)) (l1 : List (Int × List (Int) × Bool × Bool)) : Option ((Bool × Int × Bool × Bool × List (ByteArray) × List (Int × List (Int) × Bool × Bool) × List (Int))) :=
  if (decide (((l0.length : Nat) : Int) < (3 : Int))) = true then
   some (false, ((0 : Int), (false, (false, (l0, (l1, []))))))
  else
   if (decide ((1 : Int) < ((l0.length : Nat) : Int))) = true then
    if (decide (1 < l0.length)) = true then
     ((Go.Tx.chart_made (l0.getD 1 ByteArray.empty) (ByteArray.mk (List.toArray [(61 : UInt8), (33 : UInt8), (126 : UInt8)])) (1 : Int) (1 : Int))).bind fun r0_0 =>
      if (!r0_0) = true then
       some (false, ((0 : Int), (false, (false, (l0, (l1, []))))))
      else
       if (decide ((0 : Int) < ((l0.length : Nat) : Int))) = true then
        if (decide (0 < l0.length)) = true then
         ((Go.Tx.chart_point (l0.getD 0 ByteArray.empty))).bind fun (r1_0, r1_1) =>
          if ((decide ((2 : Int) ≤ ((l0.length : Nat) : Int))) && (decide (((l0.length : Nat) : Int) ≤ ((l0.length : Nat) : Int)))) = true then
           ((Go.Tx.chart_points (List.drop 2 (List.take ((l0.length : Nat) : Int).toNat l0)))).bind fun (r2_0, r2_1, r2_2) =>
            if (!r1_1) = true then
             some (false, ((0 : Int), (false, (false, (l0, (l1, []))))))
            else
             if (!r2_0) = true then
              some (false, ((0 : Int), (false, (false, (l0, (l1, []))))))
             else
              if (decide (((l1.length : Nat) : Int) > (0 : Int))) = true then
               if ((decide ((0 : Int) ≤ (Go.IntKind.wrap .i64 (((l1.length : Nat) : Int) - (1 : Int))))) && (decide ((Go.IntKind.wrap .i64 (((l1.length : Nat) : Int) - (1 : Int))) < ((l1.length : Nat) : Int)))) = true then
                if (decide ((Go.IntKind.wrap .i64 (((l1.length : Nat) : Int) - (1 : Int))).toNat < l1.length)) = true then
                 if (decide ((l1.getD (Go.IntKind.wrap .i64 (((l1.length : Nat) : Int) - (1 : Int))).toNat ((0 : Int), ([], (false, false)))).1 ≥ r1_0)) = true then
                  some (false, ((0 : Int), (false, (false, (l0, (l1, []))))))
                 else
                  if (decide ((1 : Int) < ((l0.length : Nat) : Int))) = true then
                   if (decide (1 < l0.length)) = true then
                    if (decide ((1 : Int) < ((l0.length : Nat) : Int))) = true then
                     if (decide (1 < l0.length)) = true then
                      some (true, (r1_0, ((List.beq (ByteArray.toList (l0.getD 1 ByteArray.empty)) (ByteArray.toList (ByteArray.mk (List.toArray [(126 : UInt8)])))), ((List.beq (ByteArray.toList (l0.getD 1 ByteArray.empty)) (ByteArray.toList (ByteArray.mk (List.toArray [(33 : UInt8)])))), (l0, (l1, r2_2))))))
                     else
                      none
                    else
                     none
                   else
                    none
                  else
                   none
                else
                 none
               else
                none
              else
               if (decide ((1 : Int) < ((l0.length : Nat) : Int))) = true then
                if (decide (1 < l0.length)) = true then
                 if (decide ((1 : Int) < ((l0.length : Nat) : Int))) = true then
                  if (decide (1 < l0.length)) = true then
                   some (true, (r1_0, ((List.beq (ByteArray.toList (l0.getD 1 ByteArray.empty)) (ByteArray.toList (ByteArray.mk (List.toArray [(126 : UInt8)])))), ((List.beq (ByteArray.toList (l0.getD 1 ByteArray.empty)) (ByteArray.toList (ByteArray.mk (List.toArray [(33 : UInt8)])))), (l0, (l1, r2_2))))))
                  else
                   none
                 else
                  none
                else
                 none
               else
                none
          else
           none
        else
         none
       else
        none
    else
     none
   else
    none
noncomputable def chart_read_Decomp_b5 : Int × Int × List (ByteArray) × List (Int × List (Int) × Bool × Bool) → Option ((Int × Int × List (ByteArray) × List (Int × List (Int) × Bool × Bool)) ⊕ ((List (Int × List (Int) × Bool × Bool)) ⊕ (Int × Int))) := fun
  | (t16, t17, l1150, l5000) =>
  if (decide (t17 < t16)) = true then
   if ((decide ((0 : Int) ≤ t17)) && (decide (t17 < ((l1150.length : Nat) : Int)))) = true then
    if (decide (t17.toNat < l1150.length)) = true then
     ((Go.Tx.strings_Split (l1150.getD t17.toNat ByteArray.empty) (ByteArray.mk (List.toArray [(32 : UInt8)])))).bind fun r0_0 =>
      ((Go.Tx.chart_Decomps_1 r0_0 l5000)).bind fun (r1_0, r1_1, r1_2, r1_3, r1_4, r1_5, r1_6) =>
       if (!r1_0) = true then
        some (.inr (.inr ((3 : Int), (Go.IntKind.wrap .i64 (t17 + (1 : Int))))))
       else
        if (decide (((r1_5.length + [(r1_1, (r1_6, (r1_2, r1_3)))].length) * 40) ≤ 140737488355328)) = true then
         some (.inl (t16, ((Go.IntKind.wrap .i64 (t17 + (1 : Int))), (l1150, (r1_5 ++ [(r1_1, (r1_6, (r1_2, r1_3)))])))))
        else
         none
    else
     none
   else
    none
  else
   some (.inr (.inl l5000))
noncomputable def chart_read_Decomp (s0 : ByteArray) : Option ((Int × Int × List (Int × List (Int) × Bool × Bool))) :=
  if (List.beq (ByteArray.toList s0) (ByteArray.toList (ByteArray.mk (List.toArray [])))) = true then
   some ((0 : Int), ((0 : Int), []))
  else
   ((Go.Tx.strings_Split s0 (ByteArray.mk (List.toArray [(10 : UInt8)])))).bind fun r0_0 =>
    ((Go.Sx.runLoop chart_read_Decomp_b5 (((r0_0.length : Nat) : Int), ((0 : Int), (r0_0, []))))).bind fun r1_0 =>
     match r1_0 with
     | .inl r2_0 =>
      some ((0 : Int), ((0 : Int), r2_0))
     | .inr (r3_0, r3_1) =>
      some (r3_0, (r3_1, []))
noncomputable def chart_Decomps (s0 : ByteArray) : Option ((Int × Int × List (Int × List (Int) × Bool × Bool))) :=
  ((Go.Tx.chart_read_Decomp s0)).bind fun (r0_0, r0_1, r0_2) =>
   some (r0_0, (r0_1, r0_2))
noncomputable def chart_Runs_1_1 (r0_0 : Int) (r0_1 : Int) (r0_2 : Int) : Option ((Int × Int)) :=
  some (r0_0, r0_1)
noncomputable def chart_behind_Run (s1_0 : Int) (s1_1 : Int) (l0 : List (Int × Int × Int)) : Option ((Bool × List (Int × Int × Int))) :=
  if (decide (((l0.length : Nat) : Int) = (0 : Int))) = true then
   some (true, l0)
  else
   if ((decide ((0 : Int) ≤ (Go.IntKind.wrap .i64 (((l0.length : Nat) : Int) - (1 : Int))))) && (decide ((Go.IntKind.wrap .i64 (((l0.length : Nat) : Int) - (1 : Int))) < ((l0.length : Nat) : Int)))) = true then
    if (decide ((Go.IntKind.wrap .i64 (((l0.length : Nat) : Int) - (1 : Int))).toNat < l0.length)) = true then
     ((Go.Tx.chart_Runs_1_1 (l0.getD (Go.IntKind.wrap .i64 (((l0.length : Nat) : Int) - (1 : Int))).toNat ((0 : Int), ((0 : Int), (0 : Int)))).1 (l0.getD (Go.IntKind.wrap .i64 (((l0.length : Nat) : Int) - (1 : Int))).toNat ((0 : Int), ((0 : Int), (0 : Int)))).2.1 (l0.getD (Go.IntKind.wrap .i64 (((l0.length : Nat) : Int) - (1 : Int))).toNat ((0 : Int), ((0 : Int), (0 : Int)))).2.2)).bind fun (r0_0, r0_1) =>
      some ((decide (r0_1 < s1_0)), l0)
    else
     none
   else
    none
noncomputable def chart_spanned_Run (count1 : Int) (l0 : List (ByteArray)) (l1 : List (Int × Int × Int)) : Option ((Bool × Int × Int × List (ByteArray) × List (Int × Int × Int))) :=
  if (((l0.length : Nat) : Int) != count1) = true then
   some (false, ((0 : Int), ((0 : Int), (l0, l1))))
  else
   if (decide ((0 : Int) < ((l0.length : Nat) : Int))) = true then
    if (decide (0 < l0.length)) = true then
     if (decide ((1 : Int) < ((l0.length : Nat) : Int))) = true then
      if (decide (1 < l0.length)) = true then
       ((Go.Tx.chart_span (l0.getD 0 ByteArray.empty) (l0.getD 1 ByteArray.empty))).bind fun (r0_0, r0_1, r0_2) =>
        if r0_0 = true then
         ((Go.Tx.chart_behind_Run r0_1 r0_2 l1)).bind fun (r1_0, r1_1) =>
          some (r1_0, (r0_1, (r0_2, (l0, r1_1))))
        else
         some (false, (r0_1, (r0_2, (l0, l1))))
      else
       none
     else
      none
    else
     none
   else
    none
noncomputable def chart_Runs_1 (l0 : List (ByteArray)) (l1 : List (Int × Int × Int)) : Option ((Bool × Int × Int × Int × List (ByteArray) × List (Int × Int × Int))) :=
  ((Go.Tx.chart_spanned_Run (3 : Int) l0 l1)).bind fun (r0_0, r0_1, r0_2, r0_3, r0_4) =>
   if (!r0_0) = true then
    some (false, ((0 : Int), ((0 : Int), ((0 : Int), (r0_3, r0_4)))))
   else
    if (decide ((2 : Int) < ((r0_3.length : Nat) : Int))) = true then
     if (decide (2 < r0_3.length)) = true then
      ((Go.Tx.chart_point (r0_3.getD 2 ByteArray.empty))).bind fun (r1_0, r1_1) =>
       some (r1_1, (r0_1, (r0_2, (r1_0, (r0_3, r0_4)))))
     else
      none
    else
     none
noncomputable def chart_read_Run_b5 : Int × Int × List (ByteArray) × List (Int × Int × Int) → Option ((Int × Int × List (ByteArray) × List (Int × Int × Int)) ⊕ ((List (Int × Int × Int)) ⊕ (Int × Int))) := fun
  | (t16, t17, l1150, l5000) =>
  if (decide (t17 < t16)) = true then
   if ((decide ((0 : Int) ≤ t17)) && (decide (t17 < ((l1150.length : Nat) : Int)))) = true then
    if (decide (t17.toNat < l1150.length)) = true then
     ((Go.Tx.strings_Split (l1150.getD t17.toNat ByteArray.empty) (ByteArray.mk (List.toArray [(32 : UInt8)])))).bind fun r0_0 =>
      ((Go.Tx.chart_Runs_1 r0_0 l5000)).bind fun (r1_0, r1_1, r1_2, r1_3, r1_4, r1_5) =>
       if (!r1_0) = true then
        some (.inr (.inr ((3 : Int), (Go.IntKind.wrap .i64 (t17 + (1 : Int))))))
       else
        if (decide (((r1_5.length + [(r1_1, (r1_2, r1_3))].length) * 12) ≤ 140737488355328)) = true then
         some (.inl (t16, ((Go.IntKind.wrap .i64 (t17 + (1 : Int))), (l1150, (r1_5 ++ [(r1_1, (r1_2, r1_3))])))))
        else
         none
    else
     none
   else
    none
  else
   some (.inr (.inl l5000))
noncomputable def chart_read_Run (s0 : ByteArray) : Option ((Int × Int × List (Int × Int × Int))) :=
  if (List.beq (ByteArray.toList s0) (ByteArray.toList (ByteArray.mk (List.toArray [])))) = true then
   some ((0 : Int), ((0 : Int), []))
  else
   ((Go.Tx.strings_Split s0 (ByteArray.mk (List.toArray [(10 : UInt8)])))).bind fun r0_0 =>
    ((Go.Sx.runLoop chart_read_Run_b5 (((r0_0.length : Nat) : Int), ((0 : Int), (r0_0, []))))).bind fun r1_0 =>
     match r1_0 with
     | .inl r2_0 =>
      some ((0 : Int), ((0 : Int), r2_0))
     | .inr (r3_0, r3_1) =>
      some (r3_0, (r3_1, []))
noncomputable def chart_Runs (s0 : ByteArray) : Option ((Int × Int × List (Int × Int × Int))) :=
  ((Go.Tx.chart_read_Run s0)).bind fun (r0_0, r0_1, r0_2) =>
   some (r0_0, (r0_1, r0_2))
noncomputable def chart_Sets_1 (l0 : List (ByteArray)) (l1 : List (ByteArray × Int × Int)) : Option ((Bool × ByteArray × Int × Int × List (ByteArray) × List (ByteArray × Int × Int))) :=
  if (((l0.length : Nat) : Int) != (3 : Int)) = true then
   some (false, (ByteArray.empty, ((0 : Int), ((0 : Int), (l0, l1)))))
  else
   if (decide ((0 : Int) < ((l0.length : Nat) : Int))) = true then
    if (decide (0 < l0.length)) = true then
     ((Go.Tx.chart_made (l0.getD 0 ByteArray.empty) (ByteArray.mk (List.toArray [(65 : UInt8), (66 : UInt8), (67 : UInt8), (68 : UInt8), (69 : UInt8), (70 : UInt8), (71 : UInt8), (72 : UInt8), (73 : UInt8), (74 : UInt8), (75 : UInt8), (76 : UInt8), (77 : UInt8), (78 : UInt8), (79 : UInt8), (80 : UInt8), (81 : UInt8), (82 : UInt8), (83 : UInt8), (84 : UInt8), (85 : UInt8), (86 : UInt8), (87 : UInt8), (88 : UInt8), (89 : UInt8), (90 : UInt8)])) (1 : Int) (10 : Int))).bind fun r0_0 =>
      if (!r0_0) = true then
       some (false, (ByteArray.empty, ((0 : Int), ((0 : Int), (l0, l1)))))
      else
       if (decide ((1 : Int) < ((l0.length : Nat) : Int))) = true then
        if (decide (1 < l0.length)) = true then
         if (decide ((2 : Int) < ((l0.length : Nat) : Int))) = true then
          if (decide (2 < l0.length)) = true then
           ((Go.Tx.chart_span (l0.getD 1 ByteArray.empty) (l0.getD 2 ByteArray.empty))).bind fun (r1_0, r1_1, r1_2) =>
            if (decide ((0 : Int) < ((l0.length : Nat) : Int))) = true then
             if (decide (0 < l0.length)) = true then
              some (r1_0, ((l0.getD 0 ByteArray.empty), (r1_1, (r1_2, (l0, l1)))))
             else
              none
            else
             none
          else
           none
         else
          none
        else
         none
       else
        none
    else
     none
   else
    none
noncomputable def chart_read_Named_b5 : Int × Int × List (ByteArray) × List (ByteArray × Int × Int) → Option ((Int × Int × List (ByteArray) × List (ByteArray × Int × Int)) ⊕ ((List (ByteArray × Int × Int)) ⊕ (Int × Int))) := fun
  | (t16, t17, l1150, l5000) =>
  if (decide (t17 < t16)) = true then
   if ((decide ((0 : Int) ≤ t17)) && (decide (t17 < ((l1150.length : Nat) : Int)))) = true then
    if (decide (t17.toNat < l1150.length)) = true then
     ((Go.Tx.strings_Split (l1150.getD t17.toNat ByteArray.empty) (ByteArray.mk (List.toArray [(32 : UInt8)])))).bind fun r0_0 =>
      ((Go.Tx.chart_Sets_1 r0_0 l5000)).bind fun (r1_0, r1_1, r1_2, r1_3, r1_4, r1_5) =>
       if (!r1_0) = true then
        some (.inr (.inr ((3 : Int), (Go.IntKind.wrap .i64 (t17 + (1 : Int))))))
       else
        if (decide (((r1_5.length + [(r1_1, (r1_2, r1_3))].length) * 24) ≤ 140737488355328)) = true then
         some (.inl (t16, ((Go.IntKind.wrap .i64 (t17 + (1 : Int))), (l1150, (r1_5 ++ [(r1_1, (r1_2, r1_3))])))))
        else
         none
    else
     none
   else
    none
  else
   some (.inr (.inl l5000))
noncomputable def chart_read_Named (s0 : ByteArray) : Option ((Int × Int × List (ByteArray × Int × Int))) :=
  if (List.beq (ByteArray.toList s0) (ByteArray.toList (ByteArray.mk (List.toArray [])))) = true then
   some ((0 : Int), ((0 : Int), []))
  else
   ((Go.Tx.strings_Split s0 (ByteArray.mk (List.toArray [(10 : UInt8)])))).bind fun r0_0 =>
    ((Go.Sx.runLoop chart_read_Named_b5 (((r0_0.length : Nat) : Int), ((0 : Int), (r0_0, []))))).bind fun r1_0 =>
     match r1_0 with
     | .inl r2_0 =>
      some ((0 : Int), ((0 : Int), r2_0))
     | .inr (r3_0, r3_1) =>
      some (r3_0, (r3_1, []))
noncomputable def chart_Sets (s0 : ByteArray) : Option ((Int × Int × List (ByteArray × Int × Int))) :=
  ((Go.Tx.chart_read_Named s0)).bind fun (r0_0, r0_1, r0_2) =>
   some (r0_0, (r0_1, r0_2))
end Go.Tx

namespace Go.Tx
open Go
def strsO (o : Oper) : List ByteArray := o.op.operands.toList.filterMap fun x => match x with
  | .const (.string s) => some s
  | _ => none
def strsC : Code → List ByteArray
  | .region _ os _ => os.toList.flatMap strsO
  | .seq a b => strsC a ++ strsC b
  | .cond _ a b => strsC a ++ strsC b
  | .block _ a => strsC a
  | .loop a => strsC a
  | .scope a => strsC a
  | .rangeFunc _ _ a b => strsC a ++ strsC b
  | _ => []
def bigK (f : Func) (k : Nat) : ByteArray := match f.body with
  | some c => (strsC c).getD k ByteArray.empty
  | none => ByteArray.empty
end Go.Tx

namespace Go.Tx
open Go Go.Sx
noncomputable def tables_New  : Option ((List (Int × Int × ByteArray × ByteArray × ByteArray × Bool) × List (Int × Int × Int) × List (Int × List (Int) × Bool × Bool) × List (Int × Int × Int) × List (Int × Int × Int) × List (ByteArray × Int × Int))) :=
  ((Go.Tx.chart_Ranges (bigK Go.Proofs.Tryz.f11 0))).bind fun (r0_0, r0_1, r0_2) =>
   ((Go.Tx.chart_Classes (bigK Go.Proofs.Tryz.f11 1))).bind fun (r1_0, r1_1, r1_2) =>
    ((Go.Tx.chart_Decomps (bigK Go.Proofs.Tryz.f11 2))).bind fun (r2_0, r2_1, r2_2) =>
     ((Go.Tx.chart_Runs (bigK Go.Proofs.Tryz.f11 3))).bind fun (r3_0, r3_1, r3_2) =>
      ((Go.Tx.chart_Runs (bigK Go.Proofs.Tryz.f11 4))).bind fun (r4_0, r4_1, r4_2) =>
       ((Go.Tx.chart_Sets (bigK Go.Proofs.Tryz.f11 5))).bind fun (r5_0, r5_1, r5_2) =>
        some (r0_2, (r1_2, (r2_2, (r3_2, (r4_2, r5_2)))))
noncomputable def cmp_isNaN_uint32 (x0 : Int) : Option (Bool) :=
  some (x0 != x0)
noncomputable def cmp_Compare_uint32 (x0 : Int) (y1 : Int) : Option (Int) :=
  ((Go.Tx.cmp_isNaN_uint32 x0)).bind fun r0_0 =>
   ((Go.Tx.cmp_isNaN_uint32 y1)).bind fun r1_0 =>
    if r0_0 = true then
     if r1_0 = true then
      some (0 : Int)
     else
      some (-1 : Int)
    else
     if r1_0 = true then
      some (1 : Int)
     else
      if (decide (x0 < y1)) = true then
       some (-1 : Int)
      else
       if (decide (x0 > y1)) = true then
        some (1 : Int)
       else
        some (0 : Int)
noncomputable def tables_Tables_line_1 (d0_0 : Int) (d0_2 : Bool) (d0_3 : Bool) (p1 : Int) (l0 : List (Int)) : Option ((Int × List (Int))) :=
  ((Go.Tx.cmp_Compare_uint32 d0_0 p1)).bind fun r0_0 =>
   some (r0_0, l0)
noncomputable def slices_BinarySearchFunc___b3 : Int × Int × Int × Int × List (Int × List (Int) × Bool × Bool) → Option ((Int × Int × Int × Int × List (Int × List (Int) × Bool × Bool)) ⊕ ((Int × Int × Int × List (Int × List (Int) × Bool × Bool)))) := fun
  | (target1, n8, i9, j10, l0) =>
  if (decide (i9 < j10)) = true then
   if ((decide ((0 : Int) ≤ (Go.IntKind.wrap .i64 (Int.fdiv (Go.IntKind.wrap .u64 (Go.IntKind.wrap .i64 (i9 + j10))) (2 : Int))))) && (decide ((Go.IntKind.wrap .i64 (Int.fdiv (Go.IntKind.wrap .u64 (Go.IntKind.wrap .i64 (i9 + j10))) (2 : Int))) < ((l0.length : Nat) : Int)))) = true then
    if (decide ((Go.IntKind.wrap .i64 (Int.fdiv (Go.IntKind.wrap .u64 (Go.IntKind.wrap .i64 (i9 + j10))) (2 : Int))).toNat < l0.length)) = true then
     ((Go.Tx.tables_Tables_line_1 (l0.getD (Go.IntKind.wrap .i64 (Int.fdiv (Go.IntKind.wrap .u64 (Go.IntKind.wrap .i64 (i9 + j10))) (2 : Int))).toNat ((0 : Int), ([], (false, false)))).1 (l0.getD (Go.IntKind.wrap .i64 (Int.fdiv (Go.IntKind.wrap .u64 (Go.IntKind.wrap .i64 (i9 + j10))) (2 : Int))).toNat ((0 : Int), ([], (false, false)))).2.2.1 (l0.getD (Go.IntKind.wrap .i64 (Int.fdiv (Go.IntKind.wrap .u64 (Go.IntKind.wrap .i64 (i9 + j10))) (2 : Int))).toNat ((0 : Int), ([], (false, false)))).2.2.2 target1 (l0.getD (Go.IntKind.wrap .i64 (Int.fdiv (Go.IntKind.wrap .u64 (Go.IntKind.wrap .i64 (i9 + j10))) (2 : Int))).toNat ((0 : Int), ([], (false, false)))).2.1)).bind fun (r0_0, r0_1) =>
      if (decide (r0_0 < (0 : Int))) = true then
       some (.inl (target1, (n8, ((Go.IntKind.wrap .i64 ((Go.IntKind.wrap .i64 (Int.fdiv (Go.IntKind.wrap .u64 (Go.IntKind.wrap .i64 (i9 + j10))) (2 : Int))) + (1 : Int))), (j10, l0)))))
      else
       some (.inl (target1, (n8, (i9, ((Go.IntKind.wrap .i64 (Int.fdiv (Go.IntKind.wrap .u64 (Go.IntKind.wrap .i64 (i9 + j10))) (2 : Int))), l0)))))
    else
     none
   else
    none
  else
   some (.inr (target1, (n8, (i9, l0))))
noncomputable def slices_BinarySearchFunc__ (target1 : Int) (l0 : List (Int × List (Int) × Bool × Bool)) : Option ((Int × Bool × List (Int × List (Int) × Bool × Bool))) :=
  ((Go.Sx.runLoop slices_BinarySearchFunc___b3 (target1, (((l0.length : Nat) : Int), ((0 : Int), (((l0.length : Nat) : Int), l0)))))).bind fun (r0_0, r0_1, r0_2, r0_3) =>
   if (decide (r0_2 < r0_1)) = true then
    if ((decide ((0 : Int) ≤ r0_2)) && (decide (r0_2 < ((r0_3.length : Nat) : Int)))) = true then
     if (decide (r0_2.toNat < r0_3.length)) = true then
      ((Go.Tx.tables_Tables_line_1 (r0_3.getD r0_2.toNat ((0 : Int), ([], (false, false)))).1 (r0_3.getD r0_2.toNat ((0 : Int), ([], (false, false)))).2.2.1 (r0_3.getD r0_2.toNat ((0 : Int), ([], (false, false)))).2.2.2 r0_0 (r0_3.getD r0_2.toNat ((0 : Int), ([], (false, false)))).2.1)).bind fun (r1_0, r1_1) =>
       some (r0_2, ((decide (r1_0 = (0 : Int))), r0_3))
     else
      none
    else
     none
   else
    some (r0_2, (false, r0_3))
noncomputable def tables_Tables_line (p1 : Int) (compat2 : Bool) (l1 : List (Int × Int × ByteArray × ByteArray × ByteArray × Bool)) (l2 : List (Int × Int × Int)) (l3 : List (Int × List (Int) × Bool × Bool)) (l4 : List (Int × Int × Int)) (l5 : List (Int × Int × Int)) (l6 : List (ByteArray × Int × Int)) : Option ((Bool × Int × Bool × Bool × List (Int × Int × ByteArray × ByteArray × ByteArray × Bool) × List (Int × Int × Int) × List (Int × List (Int) × Bool × Bool) × List (Int × Int × Int) × List (Int × Int × Int) × List (ByteArray × Int × Int) × List (Int))) :=
  ((Go.Tx.slices_BinarySearchFunc__ p1 l3)).bind fun (r0_0, r0_1, r0_2) =>
   if (!r0_1) = true then
    some (false, ((0 : Int), (false, (false, (l1, (l2, (r0_2, (l4, (l5, (l6, []))))))))))
   else
    if ((decide ((0 : Int) ≤ r0_0)) && (decide (r0_0 < ((r0_2.length : Nat) : Int)))) = true then
     if (decide (r0_0.toNat < r0_2.length)) = true then
      if (r0_2.getD r0_0.toNat ((0 : Int), ([], (false, false)))).2.2.1 = true then
       if (!compat2) = true then
        some (false, ((0 : Int), (false, (false, (l1, (l2, (r0_2, (l4, (l5, (l6, []))))))))))
       else
        if ((decide ((0 : Int) ≤ r0_0)) && (decide (r0_0 < ((r0_2.length : Nat) : Int)))) = true then
         if (decide (r0_0.toNat < r0_2.length)) = true then
          some (true, ((r0_2.getD r0_0.toNat ((0 : Int), ([], (false, false)))).1, ((r0_2.getD r0_0.toNat ((0 : Int), ([], (false, false)))).2.2.1, ((r0_2.getD r0_0.toNat ((0 : Int), ([], (false, false)))).2.2.2, (l1, (l2, (r0_2, (l4, (l5, (l6, (r0_2.getD r0_0.toNat ((0 : Int), ([], (false, false)))).2.1))))))))))
         else
          none
        else
         none
      else
       if ((decide ((0 : Int) ≤ r0_0)) && (decide (r0_0 < ((r0_2.length : Nat) : Int)))) = true then
        if (decide (r0_0.toNat < r0_2.length)) = true then
         some (true, ((r0_2.getD r0_0.toNat ((0 : Int), ([], (false, false)))).1, ((r0_2.getD r0_0.toNat ((0 : Int), ([], (false, false)))).2.2.1, ((r0_2.getD r0_0.toNat ((0 : Int), ([], (false, false)))).2.2.2, (l1, (l2, (r0_2, (l4, (l5, (l6, (r0_2.getD r0_0.toNat ((0 : Int), ([], (false, false)))).2.1))))))))))
        else
         none
       else
        none
     else
      none
    else
     none
noncomputable def tables_Tables_full_b6 (tables_Tables_full_rec : Int → Bool → (List (Int × Int × ByteArray × ByteArray × ByteArray × Bool)) → (List (Int × Int × Int)) → (List (Int × List (Int) × Bool × Bool)) → (List (Int × Int × Int)) → (List (Int × Int × Int)) → (List (ByteArray × Int × Int)) → Option ((List (Int) × List (Int × Int × ByteArray × ByteArray × ByteArray × Bool) × List (Int × Int × Int) × List (Int × List (Int) × Bool × Bool) × List (Int × Int × Int) × List (Int × Int × Int) × List (ByteArray × Int × Int)))) : Bool × Int × Int × List (Int) × List (Int × Int × ByteArray × ByteArray × ByteArray × Bool) × List (Int × Int × Int) × List (Int × List (Int) × Bool × Bool) × List (Int × Int × Int) × List (Int × Int × Int) × List (ByteArray × Int × Int) × List (Int) → Option ((Bool × Int × Int × List (Int) × List (Int × Int × ByteArray × ByteArray × ByteArray × Bool) × List (Int × Int × Int) × List (Int × List (Int) × Bool × Bool) × List (Int × Int × Int) × List (Int × Int × Int) × List (ByteArray × Int × Int) × List (Int)) ⊕ ((List (Int) × List (Int × Int × ByteArray × ByteArray × ByteArray × Bool) × List (Int × Int × Int) × List (Int × List (Int) × Bool × Bool) × List (Int × Int × Int) × List (Int × Int × Int) × List (ByteArray × Int × Int)))) := fun
  | (compat2, t25, t26, l1160, l1, l2, l3, l4, l5, l6, l5000) =>
  if (decide (t26 < t25)) = true then
   if ((decide ((0 : Int) ≤ t26)) && (decide (t26 < ((l1160.length : Nat) : Int)))) = true then
    if (decide (t26.toNat < l1160.length)) = true then
     ((tables_Tables_full_rec (l1160.getD t26.toNat (0 : Int)) compat2 l1 l2 l3 l4 l5 l6)).bind fun (r0_0, r0_1, r0_2, r0_3, r0_4, r0_5, r0_6) =>
      if (decide (((l5000.length + r0_0.length) * 4) ≤ 140737488355328)) = true then
       some (.inl (compat2, (t25, ((Go.IntKind.wrap .i64 (t26 + (1 : Int))), (l1160, (r0_1, (r0_2, (r0_3, (r0_4, (r0_5, (r0_6, (l5000 ++ r0_0))))))))))))
      else
       none
    else
     none
   else
    none
  else
   some (.inr (l5000, (l1, (l2, (l3, (l4, (l5, l6)))))))
noncomputable def tables_Tables_full_r (tables_Tables_full_rec : Int → Bool → (List (Int × Int × ByteArray × ByteArray × ByteArray × Bool)) → (List (Int × Int × Int)) → (List (Int × List (Int) × Bool × Bool)) → (List (Int × Int × Int)) → (List (Int × Int × Int)) → (List (ByteArray × Int × Int)) → Option ((List (Int) × List (Int × Int × ByteArray × ByteArray × ByteArray × Bool) × List (Int × Int × Int) × List (Int × List (Int) × Bool × Bool) × List (Int × Int × Int) × List (Int × Int × Int) × List (ByteArray × Int × Int)))) (p1 : Int) (compat2 : Bool) (l1 : List (Int × Int × ByteArray × ByteArray × ByteArray × Bool)) (l2 : List (Int × Int × Int)) (l3 : List (Int × List (Int) × Bool × Bool)) (l4 : List (Int × Int × Int)) (l5 : List (Int × Int × Int)) (l6 : List (ByteArray × Int × Int)) : Option ((List (Int) × List (Int × Int × ByteArray × ByteArray × ByteArray × Bool) × List (Int × Int × Int) × List (Int × List (Int) × Bool × Bool) × List (Int × Int × Int) × List (Int × Int × Int) × List (ByteArray × Int × Int))) :=
  ((Go.Tx.tables_Tables_line p1 compat2 l1 l2 l3 l4 l5 l6)).bind fun (r0_0, r0_1, r0_2, r0_3, r0_4, r0_5, r0_6, r0_7, r0_8, r0_9, r0_10) =>
   if (!r0_0) = true then
    some ([p1], (r0_4, (r0_5, (r0_6, (r0_7, (r0_8, r0_9))))))
   else
    ((Go.Sx.runLoop (tables_Tables_full_b6 tables_Tables_full_rec) (compat2, (((r0_10.length : Nat) : Int), ((0 : Int), (r0_10, (r0_4, (r0_5, (r0_6, (r0_7, (r0_8, (r0_9, [])))))))))))).bind fun (r1_0, r1_1, r1_2, r1_3, r1_4, r1_5, r1_6) =>
     some (r1_0, (r1_1, (r1_2, (r1_3, (r1_4, (r1_5, r1_6))))))
noncomputable def tables_Tables_full_n : Nat → Int → Bool → (List (Int × Int × ByteArray × ByteArray × ByteArray × Bool)) → (List (Int × Int × Int)) → (List (Int × List (Int) × Bool × Bool)) → (List (Int × Int × Int)) → (List (Int × Int × Int)) → (List (ByteArray × Int × Int)) → Option ((List (Int) × List (Int × Int × ByteArray × ByteArray × ByteArray × Bool) × List (Int × Int × Int) × List (Int × List (Int) × Bool × Bool) × List (Int × Int × Int) × List (Int × Int × Int) × List (ByteArray × Int × Int)))
  | 0, _, _, _, _, _, _, _, _ => none
  | n + 1, p1, compat2, l1, l2, l3, l4, l5, l6 => tables_Tables_full_r (tables_Tables_full_n n) p1 compat2 l1 l2 l3 l4 l5 l6
noncomputable def tables_Tables_full : Int → Bool → (List (Int × Int × ByteArray × ByteArray × ByteArray × Bool)) → (List (Int × Int × Int)) → (List (Int × List (Int) × Bool × Bool)) → (List (Int × Int × Int)) → (List (Int × Int × Int)) → (List (ByteArray × Int × Int)) → Option ((List (Int) × List (Int × Int × ByteArray × ByteArray × ByteArray × Bool) × List (Int × Int × Int) × List (Int × List (Int) × Bool × Bool) × List (Int × Int × Int) × List (Int × Int × Int) × List (ByteArray × Int × Int))) := tables_Tables_full_n 64
noncomputable def tables_Tables_Full_b5 : Bool × Int × Int × List (Int × List (Int) × Bool × Bool) × List (Int × Int × ByteArray × ByteArray × ByteArray × Bool) × List (Int × Int × Int) × List (Int × Int × Int) × List (Int × Int × Int) × List (ByteArray × Int × Int) × List (Int) × List (List (Int)) → Option ((Bool × Int × Int × List (Int × List (Int) × Bool × Bool) × List (Int × Int × ByteArray × ByteArray × ByteArray × Bool) × List (Int × Int × Int) × List (Int × Int × Int) × List (Int × Int × Int) × List (ByteArray × Int × Int) × List (Int) × List (List (Int))) ⊕ ((List (Int × List (Int) × Bool × Bool) × List (Int × Int × ByteArray × ByteArray × ByteArray × Bool) × List (Int × Int × Int) × List (Int × Int × Int) × List (Int × Int × Int) × List (ByteArray × Int × Int) × List (Int) × List (List (Int))))) := fun
  | (compat1, t16, t17, l3, l1, l2, l4, l5, l6, l5000, l5001) =>
  if (decide (t17 < t16)) = true then
   if ((decide ((0 : Int) ≤ t17)) && (decide (t17 < ((l3.length : Nat) : Int)))) = true then
    if (decide (t17.toNat < l3.length)) = true then
     if (l3.getD t17.toNat ((0 : Int), ([], (false, false)))).2.2.1 = true then
      if (!compat1) = true then
       some (.inl (compat1, (t16, ((Go.IntKind.wrap .i64 (t17 + (1 : Int))), (l3, (l1, (l2, (l4, (l5, (l6, (l5000, l5001)))))))))))
      else
       ((Go.Tx.tables_Tables_full (l3.getD t17.toNat ((0 : Int), ([], (false, false)))).1 compat1 l1 l2 l3 l4 l5 l6)).bind fun (r0_0, r0_1, r0_2, r0_3, r0_4, r0_5, r0_6) =>
        if (decide (((l5000.length + [(l3.getD t17.toNat ((0 : Int), ([], (false, false)))).1].length) * 4) ≤ 140737488355328)) = true then
         if (decide (((l5001.length + [((List.take (if (r0_0.length ≤ 3) then r0_0.length else 3) r0_0) ++ (List.drop (if (r0_0.length ≤ 3) then r0_0.length else 3) (List.replicate 3 (0 : Int))))].length) * 24) ≤ 140737488355328)) = true then
          some (.inl (compat1, (t16, ((Go.IntKind.wrap .i64 (t17 + (1 : Int))), (r0_3, (r0_1, (r0_2, (r0_4, (r0_5, (r0_6, ((l5000 ++ [(l3.getD t17.toNat ((0 : Int), ([], (false, false)))).1]), (l5001 ++ [((List.take (if (r0_0.length ≤ 3) then r0_0.length else 3) r0_0) ++ (List.drop (if (r0_0.length ≤ 3) then r0_0.length else 3) (List.replicate 3 (0 : Int))))]))))))))))))
         else
          none
        else
         none
     else
      ((Go.Tx.tables_Tables_full (l3.getD t17.toNat ((0 : Int), ([], (false, false)))).1 compat1 l1 l2 l3 l4 l5 l6)).bind fun (r1_0, r1_1, r1_2, r1_3, r1_4, r1_5, r1_6) =>
       if (decide (((l5000.length + [(l3.getD t17.toNat ((0 : Int), ([], (false, false)))).1].length) * 4) ≤ 140737488355328)) = true then
        if (decide (((l5001.length + [((List.take (if (r1_0.length ≤ 3) then r1_0.length else 3) r1_0) ++ (List.drop (if (r1_0.length ≤ 3) then r1_0.length else 3) (List.replicate 3 (0 : Int))))].length) * 24) ≤ 140737488355328)) = true then
         some (.inl (compat1, (t16, ((Go.IntKind.wrap .i64 (t17 + (1 : Int))), (r1_3, (r1_1, (r1_2, (r1_4, (r1_5, (r1_6, ((l5000 ++ [(l3.getD t17.toNat ((0 : Int), ([], (false, false)))).1]), (l5001 ++ [((List.take (if (r1_0.length ≤ 3) then r1_0.length else 3) r1_0) ++ (List.drop (if (r1_0.length ≤ 3) then r1_0.length else 3) (List.replicate 3 (0 : Int))))]))))))))))))
        else
         none
       else
        none
    else
     none
   else
    none
  else
   some (.inr (l3, (l1, (l2, (l4, (l5, (l6, (l5000, l5001))))))))
noncomputable def tables_Tables_Full (compat1 : Bool) (l1 : List (Int × Int × ByteArray × ByteArray × ByteArray × Bool)) (l2 : List (Int × Int × Int)) (l3 : List (Int × List (Int) × Bool × Bool)) (l4 : List (Int × Int × Int)) (l5 : List (Int × Int × Int)) (l6 : List (ByteArray × Int × Int)) : Option ((List (Int × List (Int) × Bool × Bool) × List (Int × Int × ByteArray × ByteArray × ByteArray × Bool) × List (Int × Int × Int) × List (Int × Int × Int) × List (Int × Int × Int) × List (ByteArray × Int × Int) × List (Int) × List (List (Int)))) :=
  ((Go.Sx.runLoop tables_Tables_Full_b5 (compat1, (((l3.length : Nat) : Int), ((0 : Int), (l3, (l1, (l2, (l4, (l5, (l6, ([], [])))))))))))).bind fun (r0_0, r0_1, r0_2, r0_3, r0_4, r0_5, r0_6, r0_7) =>
   some (r0_0, (r0_1, (r0_2, (r0_3, (r0_4, (r0_5, (r0_6, r0_7)))))))
noncomputable def law08_awake_b3 : Int × Int × List (Int) × List (List (Int)) → Option ((Int × Int × List (Int) × List (List (Int))) ⊕ (Bool ⊕ Unit)) := fun
  | (t8, t9, l1050, l1051) =>
  if (decide (t9 < t8)) = true then
   if ((decide ((0 : Int) ≤ t9)) && (decide (t9 < ((l1050.length : Nat) : Int)))) = true then
    if (decide (t9.toNat < l1050.length)) = true then
     if (decide ((l1050.getD t9.toNat (0 : Int)) = (469 : Int))) = true then
      if ((decide ((0 : Int) ≤ t9)) && (decide (t9 < ((l1051.length : Nat) : Int)))) = true then
       if (decide (t9.toNat < l1051.length)) = true then
        if (decide ((((l1051.getD t9.toNat []).length : Nat) : Int) = (3 : Int))) = true then
         if ((decide ((0 : Int) ≤ t9)) && (decide (t9 < ((l1051.length : Nat) : Int)))) = true then
          if (decide (t9.toNat < l1051.length)) = true then
           if (decide ((0 : Int) < (((l1051.getD t9.toNat []).length : Nat) : Int))) = true then
            if (decide (0 < (l1051.getD t9.toNat []).length)) = true then
             if (decide (((l1051.getD t9.toNat []).getD 0 (0 : Int)) = (85 : Int))) = true then
              if ((decide ((0 : Int) ≤ t9)) && (decide (t9 < ((l1051.length : Nat) : Int)))) = true then
               if (decide (t9.toNat < l1051.length)) = true then
                if (decide ((1 : Int) < (((l1051.getD t9.toNat []).length : Nat) : Int))) = true then
                 if (decide (1 < (l1051.getD t9.toNat []).length)) = true then
                  if (decide (((l1051.getD t9.toNat []).getD 1 (0 : Int)) = (776 : Int))) = true then
                   if ((decide ((0 : Int) ≤ t9)) && (decide (t9 < ((l1051.length : Nat) : Int)))) = true then
                    if (decide (t9.toNat < l1051.length)) = true then
                     if (decide ((2 : Int) < (((l1051.getD t9.toNat []).length : Nat) : Int))) = true then
                      if (decide (2 < (l1051.getD t9.toNat []).length)) = true then
                       some (.inr (.inl (decide (((l1051.getD t9.toNat []).getD 2 (0 : Int)) = (772 : Int)))))
                      else
                       none
                     else
                      none
                    else
                     none
                   else
                    none
                  else
                   some (.inr (.inl false))
                 else
                  none
                else
                 none
               else
                none
              else
               none
             else
              some (.inr (.inl false))
            else
             none
           else
            none
          else
           none
         else
          none
        else
         some (.inr (.inl false))
       else
        none
      else
       none
     else
      some (.inl (t8, ((Go.IntKind.wrap .i64 (t9 + (1 : Int))), (l1050, l1051))))
    else
     none
   else
    none
  else
   some (.inr (.inr ()))
noncomputable def law08_awake  : Option (Bool) :=
  (Go.Tx.tables_New).bind fun (r0_0, r0_1, r0_2, r0_3, r0_4, r0_5) =>
   ((Go.Tx.tables_Tables_Full false r0_0 r0_1 r0_2 r0_3 r0_4 r0_5)).bind fun (r1_0, r1_1, r1_2, r1_3, r1_4, r1_5, r1_6, r1_7) =>
    ((Go.Sx.runLoop law08_awake_b3 (((r1_6.length : Nat) : Int), ((0 : Int), (r1_6, r1_7))))).bind fun r2_0 =>
     match r2_0 with
     | .inl r3_0 =>
      some r3_0
     | .inr _ =>
      some false
end Go.Tx

namespace Go.Tx
open Go Go.Sx
noncomputable def ref07_Split_b3 : ByteArray × Int × Int × List (ByteArray) → Option ((ByteArray × Int × Int × List (ByteArray)) ⊕ (List (ByteArray))) := fun
  | (s0, at1, i6, l108) =>
  if (decide (i6 < ((s0.size : Nat) : Int))) = true then
   if ((decide ((0 : Int) ≤ i6)) && (decide (i6 < ((s0.size : Nat) : Int)))) = true then
    if (decide ((((s0.data.toList.getD i6.toNat (0 : UInt8)).toNat : Nat) : Int) = at1)) = true then
     if (decide (((l108.length + 1) * 16) ≤ 140737488355328)) = true then
      some (.inl (s0, (at1, ((Go.IntKind.wrap .i64 (i6 + (1 : Int))), (l108 ++ [(ByteArray.mk (List.toArray []))])))))
     else
      none
    else
     if ((decide ((0 : Int) ≤ (Go.IntKind.wrap .i64 (((l108.length : Nat) : Int) - (1 : Int))))) && (decide ((Go.IntKind.wrap .i64 (((l108.length : Nat) : Int) - (1 : Int))) < ((l108.length : Nat) : Int)))) = true then
      if (decide ((Go.IntKind.wrap .i64 (((l108.length : Nat) : Int) - (1 : Int))).toNat < l108.length)) = true then
       if (((decide ((0 : Int) ≤ i6)) && (decide (i6 ≤ (Go.IntKind.wrap .i64 (i6 + (1 : Int)))))) && (decide ((Go.IntKind.wrap .i64 (i6 + (1 : Int))) ≤ ((s0.size : Nat) : Int)))) = true then
        if (decide (((l108.getD (Go.IntKind.wrap .i64 (((l108.length : Nat) : Int) - (1 : Int))).toNat ByteArray.empty).size + (ByteArray.extract s0 i6.toNat (Go.IntKind.wrap .i64 (i6 + (1 : Int))).toNat).size) ≤ 9223372036854775807)) = true then
         if ((decide ((0 : Int) ≤ (Go.IntKind.wrap .i64 (((l108.length : Nat) : Int) - (1 : Int))))) && (decide ((Go.IntKind.wrap .i64 (((l108.length : Nat) : Int) - (1 : Int))) < ((l108.length : Nat) : Int)))) = true then
          if (decide ((Go.IntKind.wrap .i64 (((l108.length : Nat) : Int) - (1 : Int))).toNat < l108.length)) = true then
           some (.inl (s0, (at1, ((Go.IntKind.wrap .i64 (i6 + (1 : Int))), (List.set l108 (Go.IntKind.wrap .i64 (((l108.length : Nat) : Int) - (1 : Int))).toNat (ByteArray.append (l108.getD (Go.IntKind.wrap .i64 (((l108.length : Nat) : Int) - (1 : Int))).toNat ByteArray.empty) (ByteArray.extract s0 i6.toNat (Go.IntKind.wrap .i64 (i6 + (1 : Int))).toNat)))))))
          else
           none
         else
          none
        else
         none
       else
        none
      else
       none
     else
      none
   else
    none
  else
   some (.inr l108)
noncomputable def ref07_Split (s0 : ByteArray) (at1 : Int) : Option (List (ByteArray)) :=
  ((Go.Sx.runLoop ref07_Split_b3 (s0, (at1, ((0 : Int), [(ByteArray.mk (List.toArray []))]))))).bind fun r0_0 =>
   some r0_0
noncomputable def ref07_Lines_b6 : Int × List (ByteArray) × List (List (ByteArray)) → Option ((Int × List (ByteArray) × List (List (ByteArray))) ⊕ (List (List (ByteArray)))) := fun
  | (i5, l1100, l5000) =>
  if (decide (i5 < ((l1100.length : Nat) : Int))) = true then
   if ((decide ((0 : Int) ≤ i5)) && (decide (i5 < ((l1100.length : Nat) : Int)))) = true then
    if (decide (i5.toNat < l1100.length)) = true then
     ((Go.Tx.ref07_Split (l1100.getD i5.toNat ByteArray.empty) (32 : Int))).bind fun r0_0 =>
      if (decide (((l5000.length + [r0_0].length) * 24) ≤ 140737488355328)) = true then
       some (.inl ((Go.IntKind.wrap .i64 (i5 + (1 : Int))), (l1100, (l5000 ++ [r0_0]))))
      else
       none
    else
     none
   else
    none
  else
   some (.inr l5000)
noncomputable def ref07_Lines (s0 : ByteArray) : Option (List (List (ByteArray))) :=
  if (List.beq (ByteArray.toList s0) (ByteArray.toList (ByteArray.mk (List.toArray [])))) = true then
   some []
  else
   ((Go.Tx.ref07_Split s0 (10 : Int))).bind fun r0_0 =>
    ((Go.Sx.runLoop ref07_Lines_b6 ((0 : Int), (r0_0, [])))).bind fun r1_0 =>
     some r1_0
noncomputable def ref07_digit (c0 : Int) : Option (Int) :=
  if (decide (c0 ≥ (48 : Int))) = true then
   if (decide (c0 ≤ (57 : Int))) = true then
    some (Go.IntKind.wrap .i64 (Go.IntKind.wrap .u8 (c0 - (48 : Int))))
   else
    if (decide (c0 ≥ (65 : Int))) = true then
     if (decide (c0 ≤ (70 : Int))) = true then
      some (Go.IntKind.wrap .i64 ((Go.IntKind.wrap .i64 (Go.IntKind.wrap .u8 (c0 - (65 : Int)))) + (10 : Int)))
     else
      some (-1 : Int)
    else
     some (-1 : Int)
  else
   if (decide (c0 ≥ (65 : Int))) = true then
    if (decide (c0 ≤ (70 : Int))) = true then
     some (Go.IntKind.wrap .i64 ((Go.IntKind.wrap .i64 (Go.IntKind.wrap .u8 (c0 - (65 : Int)))) + (10 : Int)))
    else
     some (-1 : Int)
   else
    some (-1 : Int)
noncomputable def ref07_Point_b5 : ByteArray × Int × Int → Option ((ByteArray × Int × Int) ⊕ (Int ⊕ Int)) := fun
  | (s0, n3, i4) =>
  if (decide (i4 < ((s0.size : Nat) : Int))) = true then
   if ((decide ((0 : Int) ≤ i4)) && (decide (i4 < ((s0.size : Nat) : Int)))) = true then
    ((Go.Tx.ref07_digit (((s0.data.toList.getD i4.toNat (0 : UInt8)).toNat : Nat) : Int))).bind fun r0_0 =>
     if (decide (r0_0 < (0 : Int))) = true then
      some (.inr (.inr (-1 : Int)))
     else
      some (.inl (s0, ((Go.IntKind.wrap .i64 ((Go.IntKind.wrap .i64 (n3 * (16 : Int))) + r0_0)), (Go.IntKind.wrap .i64 (i4 + (1 : Int))))))
   else
    none
  else
   some (.inr (.inl n3))
noncomputable def ref07_Point (s0 : ByteArray) : Option (Int) :=
  if (decide (((s0.size : Nat) : Int) < (4 : Int))) = true then
   some (-1 : Int)
  else
   if (decide (((s0.size : Nat) : Int) > (6 : Int))) = true then
    some (-1 : Int)
   else
    if (decide (((s0.size : Nat) : Int) > (4 : Int))) = true then
     if (decide ((0 : Int) < ((s0.size : Nat) : Int))) = true then
      if (decide ((((s0.data.toList.getD 0 (0 : UInt8)).toNat : Nat) : Int) = (48 : Int))) = true then
       some (-1 : Int)
      else
       ((Go.Sx.runLoop ref07_Point_b5 (s0, ((0 : Int), (0 : Int))))).bind fun r0_0 =>
        match r0_0 with
        | .inl r1_0 =>
         if (decide (r1_0 > (1114111 : Int))) = true then
          some (-1 : Int)
         else
          some r1_0
        | .inr r2_0 =>
         some r2_0
     else
      none
    else
     ((Go.Sx.runLoop ref07_Point_b5 (s0, ((0 : Int), (0 : Int))))).bind fun r3_0 =>
      match r3_0 with
      | .inl r4_0 =>
       if (decide (r4_0 > (1114111 : Int))) = true then
        some (-1 : Int)
       else
        some r4_0
      | .inr r5_0 =>
       some r5_0
noncomputable def ref07_span (a0 : ByteArray) (b1 : ByteArray) : Option ((Bool × Int × Int)) :=
  ((Go.Tx.ref07_Point a0)).bind fun r0_0 =>
   ((Go.Tx.ref07_Point b1)).bind fun r1_0 =>
    if (decide (r0_0 < (0 : Int))) = true then
     some (false, ((0 : Int), (0 : Int)))
    else
     if (decide (r1_0 < (0 : Int))) = true then
      some (false, ((0 : Int), (0 : Int)))
     else
      if (decide (r0_0 > r1_0)) = true then
       some (false, ((0 : Int), (0 : Int)))
      else
       some (true, ((Go.IntKind.wrap .u32 r0_0), (Go.IntKind.wrap .u32 r1_0)))
noncomputable def ref07_all_b2 : ByteArray × Int × Int × Int × Int × Int → Option ((ByteArray × Int × Int × Int × Int × Int) ⊕ (Bool ⊕ (ByteArray × Int × Int))) := fun
  | (s0, from1, to2, least3, most4, i11) =>
  if (decide (i11 < ((s0.size : Nat) : Int))) = true then
   if ((decide ((0 : Int) ≤ i11)) && (decide (i11 < ((s0.size : Nat) : Int)))) = true then
    if (decide ((((s0.data.toList.getD i11.toNat (0 : UInt8)).toNat : Nat) : Int) < from1)) = true then
     some (.inr (.inl false))
    else
     if ((decide ((0 : Int) ≤ i11)) && (decide (i11 < ((s0.size : Nat) : Int)))) = true then
      if (decide ((((s0.data.toList.getD i11.toNat (0 : UInt8)).toNat : Nat) : Int) > to2)) = true then
       some (.inr (.inl false))
      else
       some (.inl (s0, (from1, (to2, (least3, (most4, (Go.IntKind.wrap .i64 (i11 + (1 : Int)))))))))
     else
      none
   else
    none
  else
   some (.inr (.inr (s0, (least3, most4))))
noncomputable def ref07_all (s0 : ByteArray) (from1 : Int) (to2 : Int) (least3 : Int) (most4 : Int) : Option (Bool) :=
  ((Go.Sx.runLoop ref07_all_b2 (s0, (from1, (to2, (least3, (most4, (0 : Int)))))))).bind fun r0_0 =>
   match r0_0 with
   | .inl r1_0 =>
    some r1_0
   | .inr (r2_0, r2_1, r2_2) =>
    if (decide (((r2_0.size : Nat) : Int) ≥ r2_1)) = true then
     some (decide (((r2_0.size : Nat) : Int) ≤ r2_2))
    else
     some false
noncomputable def ref07_number_b5 : ByteArray × Int × Int → Option ((ByteArray × Int × Int) ⊕ (Int)) := fun
  | (s0, n3, i4) =>
  if (decide (i4 < ((s0.size : Nat) : Int))) = true then
   if ((decide ((0 : Int) ≤ i4)) && (decide (i4 < ((s0.size : Nat) : Int)))) = true then
    some (.inl (s0, ((Go.IntKind.wrap .i64 ((Go.IntKind.wrap .i64 (n3 * (10 : Int))) + (Go.IntKind.wrap .i64 (Go.IntKind.wrap .u8 ((((s0.data.toList.getD i4.toNat (0 : UInt8)).toNat : Nat) : Int) - (48 : Int)))))), (Go.IntKind.wrap .i64 (i4 + (1 : Int))))))
   else
    none
  else
   some (.inr n3)
noncomputable def ref07_number (s0 : ByteArray) : Option (Int) :=
  ((Go.Tx.ref07_all s0 (48 : Int) (57 : Int) (1 : Int) (3 : Int))).bind fun r0_0 =>
   if (!r0_0) = true then
    some (0 : Int)
   else
    if (decide ((0 : Int) < ((s0.size : Nat) : Int))) = true then
     if (decide ((((s0.data.toList.getD 0 (0 : UInt8)).toNat : Nat) : Int) = (48 : Int))) = true then
      some (0 : Int)
     else
      ((Go.Sx.runLoop ref07_number_b5 (s0, ((0 : Int), (0 : Int))))).bind fun r1_0 =>
       if (decide (r1_0 > (254 : Int))) = true then
        some (0 : Int)
       else
        some r1_0
    else
     none
noncomputable def ref07_Classes_b4 : Int × List (List (ByteArray)) × List (Int × Int × Int) → Option ((Int × List (List (ByteArray)) × List (Int × Int × Int)) ⊕ (Int ⊕ (List (Int × Int × Int)))) := fun
  | (i6, l1110, l5000) =>
  if (decide (i6 < ((l1110.length : Nat) : Int))) = true then
   if ((decide ((0 : Int) ≤ i6)) && (decide (i6 < ((l1110.length : Nat) : Int)))) = true then
    if (decide (i6.toNat < l1110.length)) = true then
     if ((((l1110.getD i6.toNat []).length : Nat) : Int) != (3 : Int)) = true then
      some (.inr (.inl (Go.IntKind.wrap .i64 (i6 + (1 : Int)))))
     else
      if ((decide ((0 : Int) ≤ i6)) && (decide (i6 < ((l1110.length : Nat) : Int)))) = true then
       if (decide (i6.toNat < l1110.length)) = true then
        if (decide ((0 : Int) < (((l1110.getD i6.toNat []).length : Nat) : Int))) = true then
         if (decide (0 < (l1110.getD i6.toNat []).length)) = true then
          if ((decide ((0 : Int) ≤ i6)) && (decide (i6 < ((l1110.length : Nat) : Int)))) = true then
           if (decide (i6.toNat < l1110.length)) = true then
            if (decide ((1 : Int) < (((l1110.getD i6.toNat []).length : Nat) : Int))) = true then
             if (decide (1 < (l1110.getD i6.toNat []).length)) = true then
              ((Go.Tx.ref07_span ((l1110.getD i6.toNat []).getD 0 ByteArray.empty) ((l1110.getD i6.toNat []).getD 1 ByteArray.empty))).bind fun (r0_0, r0_1, r0_2) =>
               if ((decide ((0 : Int) ≤ i6)) && (decide (i6 < ((l1110.length : Nat) : Int)))) = true then
                if (decide (i6.toNat < l1110.length)) = true then
                 if (decide ((2 : Int) < (((l1110.getD i6.toNat []).length : Nat) : Int))) = true then
                  if (decide (2 < (l1110.getD i6.toNat []).length)) = true then
                   ((Go.Tx.ref07_number ((l1110.getD i6.toNat []).getD 2 ByteArray.empty))).bind fun r1_0 =>
                    if (!r0_0) = true then
                     some (.inr (.inl (Go.IntKind.wrap .i64 (i6 + (1 : Int)))))
                    else
                     if (decide (r1_0 = (0 : Int))) = true then
                      some (.inr (.inl (Go.IntKind.wrap .i64 (i6 + (1 : Int)))))
                     else
                      if (decide (i6 > (0 : Int))) = true then
                       if ((decide ((0 : Int) ≤ (Go.IntKind.wrap .i64 (i6 - (1 : Int))))) && (decide ((Go.IntKind.wrap .i64 (i6 - (1 : Int))) < ((l5000.length : Nat) : Int)))) = true then
                        if (decide ((Go.IntKind.wrap .i64 (i6 - (1 : Int))).toNat < l5000.length)) = true then
                         if (decide ((l5000.getD (Go.IntKind.wrap .i64 (i6 - (1 : Int))).toNat ((0 : Int), ((0 : Int), (0 : Int)))).2.1 ≥ r0_1)) = true then
                          some (.inr (.inl (Go.IntKind.wrap .i64 (i6 + (1 : Int)))))
                         else
                          if (decide (((l5000.length + [(r0_1, (r0_2, (Go.IntKind.wrap .u32 r1_0)))].length) * 12) ≤ 140737488355328)) = true then
                           some (.inl ((Go.IntKind.wrap .i64 (i6 + (1 : Int))), (l1110, (l5000 ++ [(r0_1, (r0_2, (Go.IntKind.wrap .u32 r1_0)))]))))
                          else
                           none
                        else
                         none
                       else
                        none
                      else
                       if (decide (((l5000.length + [(r0_1, (r0_2, (Go.IntKind.wrap .u32 r1_0)))].length) * 12) ≤ 140737488355328)) = true then
                        some (.inl ((Go.IntKind.wrap .i64 (i6 + (1 : Int))), (l1110, (l5000 ++ [(r0_1, (r0_2, (Go.IntKind.wrap .u32 r1_0)))]))))
                       else
                        none
                  else
                   none
                 else
                  none
                else
                 none
               else
                none
             else
              none
            else
             none
           else
            none
          else
           none
         else
          none
        else
         none
       else
        none
      else
       none
    else
     none
   else
    none
  else
   some (.inr (.inr l5000))
noncomputable def ref07_Classes (s0 : ByteArray) : Option ((Int × List (Int × Int × Int))) :=
  ((Go.Tx.ref07_Lines s0)).bind fun r0_0 =>
   ((Go.Sx.runLoop ref07_Classes_b4 ((0 : Int), (r0_0, [])))).bind fun r1_0 =>
    match r1_0 with
    | .inl r2_0 =>
     some (r2_0, [])
    | .inr r3_0 =>
     some ((0 : Int), r3_0)
noncomputable def ref07_Runs_b4 : Int × List (List (ByteArray)) × List (Int × Int × Int) → Option ((Int × List (List (ByteArray)) × List (Int × Int × Int)) ⊕ (Int ⊕ (List (Int × Int × Int)))) := fun
  | (i6, l1110, l5000) =>
  if (decide (i6 < ((l1110.length : Nat) : Int))) = true then
   if ((decide ((0 : Int) ≤ i6)) && (decide (i6 < ((l1110.length : Nat) : Int)))) = true then
    if (decide (i6.toNat < l1110.length)) = true then
     if ((((l1110.getD i6.toNat []).length : Nat) : Int) != (3 : Int)) = true then
      some (.inr (.inl (Go.IntKind.wrap .i64 (i6 + (1 : Int)))))
     else
      if ((decide ((0 : Int) ≤ i6)) && (decide (i6 < ((l1110.length : Nat) : Int)))) = true then
       if (decide (i6.toNat < l1110.length)) = true then
        if (decide ((0 : Int) < (((l1110.getD i6.toNat []).length : Nat) : Int))) = true then
         if (decide (0 < (l1110.getD i6.toNat []).length)) = true then
          if ((decide ((0 : Int) ≤ i6)) && (decide (i6 < ((l1110.length : Nat) : Int)))) = true then
           if (decide (i6.toNat < l1110.length)) = true then
            if (decide ((1 : Int) < (((l1110.getD i6.toNat []).length : Nat) : Int))) = true then
             if (decide (1 < (l1110.getD i6.toNat []).length)) = true then
              ((Go.Tx.ref07_span ((l1110.getD i6.toNat []).getD 0 ByteArray.empty) ((l1110.getD i6.toNat []).getD 1 ByteArray.empty))).bind fun (r0_0, r0_1, r0_2) =>
               if ((decide ((0 : Int) ≤ i6)) && (decide (i6 < ((l1110.length : Nat) : Int)))) = true then
                if (decide (i6.toNat < l1110.length)) = true then
                 if (decide ((2 : Int) < (((l1110.getD i6.toNat []).length : Nat) : Int))) = true then
                  if (decide (2 < (l1110.getD i6.toNat []).length)) = true then
                   ((Go.Tx.ref07_Point ((l1110.getD i6.toNat []).getD 2 ByteArray.empty))).bind fun r1_0 =>
                    if (!r0_0) = true then
                     some (.inr (.inl (Go.IntKind.wrap .i64 (i6 + (1 : Int)))))
                    else
                     if (decide (r1_0 < (0 : Int))) = true then
                      some (.inr (.inl (Go.IntKind.wrap .i64 (i6 + (1 : Int)))))
                     else
                      if (decide (i6 > (0 : Int))) = true then
                       if ((decide ((0 : Int) ≤ (Go.IntKind.wrap .i64 (i6 - (1 : Int))))) && (decide ((Go.IntKind.wrap .i64 (i6 - (1 : Int))) < ((l5000.length : Nat) : Int)))) = true then
                        if (decide ((Go.IntKind.wrap .i64 (i6 - (1 : Int))).toNat < l5000.length)) = true then
                         if (decide ((l5000.getD (Go.IntKind.wrap .i64 (i6 - (1 : Int))).toNat ((0 : Int), ((0 : Int), (0 : Int)))).2.1 ≥ r0_1)) = true then
                          some (.inr (.inl (Go.IntKind.wrap .i64 (i6 + (1 : Int)))))
                         else
                          if (decide (((l5000.length + [(r0_1, (r0_2, (Go.IntKind.wrap .u32 r1_0)))].length) * 12) ≤ 140737488355328)) = true then
                           some (.inl ((Go.IntKind.wrap .i64 (i6 + (1 : Int))), (l1110, (l5000 ++ [(r0_1, (r0_2, (Go.IntKind.wrap .u32 r1_0)))]))))
                          else
                           none
                        else
                         none
                       else
                        none
                      else
                       if (decide (((l5000.length + [(r0_1, (r0_2, (Go.IntKind.wrap .u32 r1_0)))].length) * 12) ≤ 140737488355328)) = true then
                        some (.inl ((Go.IntKind.wrap .i64 (i6 + (1 : Int))), (l1110, (l5000 ++ [(r0_1, (r0_2, (Go.IntKind.wrap .u32 r1_0)))]))))
                       else
                        none
                  else
                   none
                 else
                  none
                else
                 none
               else
                none
             else
              none
            else
             none
           else
            none
          else
           none
         else
          none
        else
         none
       else
        none
      else
       none
    else
     none
   else
    none
  else
   some (.inr (.inr l5000))
noncomputable def ref07_Runs (s0 : ByteArray) : Option ((Int × List (Int × Int × Int))) :=
  ((Go.Tx.ref07_Lines s0)).bind fun r0_0 =>
   ((Go.Sx.runLoop ref07_Runs_b4 ((0 : Int), (r0_0, [])))).bind fun r1_0 =>
    match r1_0 with
    | .inl r2_0 =>
     some (r2_0, [])
    | .inr r3_0 =>
     some ((0 : Int), r3_0)
end Go.Tx

namespace Go.Tx
open Go Go.Sx
noncomputable def ref07_Ranges_c5 : Int × List (Int × Int × ByteArray × ByteArray × ByteArray × Bool) × List (List (ByteArray)) → Option ((Int × List (Int × Int × ByteArray × ByteArray × ByteArray × Bool) × List (List (ByteArray)))) := fun
  | (i6, l5000, l1110) =>
  some ((Go.IntKind.wrap .i64 (i6 + (1 : Int))), (l5000, l1110))
noncomputable def ref07_Ranges_c14 : Int × List (Int × Int × ByteArray × ByteArray × ByteArray × Bool) × List (List (ByteArray)) × List (ByteArray) × Int × Int → Option ((Int × List (Int × Int × ByteArray × ByteArray × ByteArray × Bool) × List (List (ByteArray)))) := fun
  | (i6, l5000, l1110, l1210, h108_0, h108_1) =>
  if (decide ((2 : Int) < ((l1210.length : Nat) : Int))) = true then
   if (decide (2 < l1210.length)) = true then
    if (decide ((3 : Int) < ((l1210.length : Nat) : Int))) = true then
     if (decide (3 < l1210.length)) = true then
      if (decide ((4 : Int) < ((l1210.length : Nat) : Int))) = true then
       if (decide (4 < l1210.length)) = true then
        if (decide ((5 : Int) < ((l1210.length : Nat) : Int))) = true then
         if (decide (5 < l1210.length)) = true then
          if (decide (((l5000.length + [(h108_0, (h108_1, ((l1210.getD 2 ByteArray.empty), ((l1210.getD 3 ByteArray.empty), ((l1210.getD 4 ByteArray.empty), (List.beq (ByteArray.toList (l1210.getD 5 ByteArray.empty)) (ByteArray.toList (ByteArray.mk (List.toArray [(110 : UInt8), (101 : UInt8), (119 : UInt8)])))))))))].length) * 64) ≤ 140737488355328)) = true then
           some (i6, ((l5000 ++ [(h108_0, (h108_1, ((l1210.getD 2 ByteArray.empty), ((l1210.getD 3 ByteArray.empty), ((l1210.getD 4 ByteArray.empty), (List.beq (ByteArray.toList (l1210.getD 5 ByteArray.empty)) (ByteArray.toList (ByteArray.mk (List.toArray [(110 : UInt8), (101 : UInt8), (119 : UInt8)])))))))))]), l1110))
          else
           none
         else
          none
        else
         none
       else
        none
      else
       none
     else
      none
    else
     none
   else
    none
  else
   none
noncomputable def ref07_Ranges_c12 : Int × List (Int × Int × ByteArray × ByteArray × ByteArray × Bool) × List (List (ByteArray)) × List (ByteArray) × Int × Int → Option (Int ⊕ (Int × List (Int × Int × ByteArray × ByteArray × ByteArray × Bool) × List (List (ByteArray)))) := fun
  | (i6, l5000, l1110, l1210, h108_0, h108_1) =>
  if (decide ((4 : Int) < ((l1210.length : Nat) : Int))) = true then
   if (decide (4 < l1210.length)) = true then
    if (!(List.beq (ByteArray.toList (l1210.getD 4 ByteArray.empty)) (ByteArray.toList (ByteArray.mk (List.toArray [(85 : UInt8)]))))) = true then
     if (decide ((4 : Int) < ((l1210.length : Nat) : Int))) = true then
      if (decide (4 < l1210.length)) = true then
       if (!(List.beq (ByteArray.toList (l1210.getD 4 ByteArray.empty)) (ByteArray.toList (ByteArray.mk (List.toArray [(68 : UInt8)]))))) = true then
        if (decide ((4 : Int) < ((l1210.length : Nat) : Int))) = true then
         if (decide (4 < l1210.length)) = true then
          if (!(List.beq (ByteArray.toList (l1210.getD 4 ByteArray.empty)) (ByteArray.toList (ByteArray.mk (List.toArray [(82 : UInt8)]))))) = true then
           if (decide ((4 : Int) < ((l1210.length : Nat) : Int))) = true then
            if (decide (4 < l1210.length)) = true then
             if (!(List.beq (ByteArray.toList (l1210.getD 4 ByteArray.empty)) (ByteArray.toList (ByteArray.mk (List.toArray [(76 : UInt8)]))))) = true then
              if (decide ((4 : Int) < ((l1210.length : Nat) : Int))) = true then
               if (decide (4 < l1210.length)) = true then
                if (!(List.beq (ByteArray.toList (l1210.getD 4 ByteArray.empty)) (ByteArray.toList (ByteArray.mk (List.toArray [(67 : UInt8)]))))) = true then
                 if (decide ((4 : Int) < ((l1210.length : Nat) : Int))) = true then
                  if (decide (4 < l1210.length)) = true then
                   if (!(List.beq (ByteArray.toList (l1210.getD 4 ByteArray.empty)) (ByteArray.toList (ByteArray.mk (List.toArray [(84 : UInt8)]))))) = true then
                    some (.inl (Go.IntKind.wrap .i64 (i6 + (1 : Int))))
                   else
                    if (decide ((5 : Int) < ((l1210.length : Nat) : Int))) = true then
                     if (decide (5 < l1210.length)) = true then
                      if (!(List.beq (ByteArray.toList (l1210.getD 5 ByteArray.empty)) (ByteArray.toList (ByteArray.mk (List.toArray [(111 : UInt8), (108 : UInt8), (100 : UInt8)]))))) = true then
                       if (decide ((5 : Int) < ((l1210.length : Nat) : Int))) = true then
                        if (decide (5 < l1210.length)) = true then
                         if (!(List.beq (ByteArray.toList (l1210.getD 5 ByteArray.empty)) (ByteArray.toList (ByteArray.mk (List.toArray [(110 : UInt8), (101 : UInt8), (119 : UInt8)]))))) = true then
                          some (.inl (Go.IntKind.wrap .i64 (i6 + (1 : Int))))
                         else
                          ((ref07_Ranges_c14 (i6, (l5000, (l1110, (l1210, (h108_0, h108_1))))))).bind fun (r0_0, r0_1, r0_2) =>
                           some (.inr (r0_0, (r0_1, r0_2)))
                        else
                         none
                       else
                        none
                      else
                       ((ref07_Ranges_c14 (i6, (l5000, (l1110, (l1210, (h108_0, h108_1))))))).bind fun (r1_0, r1_1, r1_2) =>
                        some (.inr (r1_0, (r1_1, r1_2)))
                     else
                      none
                    else
                     none
                  else
                   none
                 else
                  none
                else
                 if (decide ((5 : Int) < ((l1210.length : Nat) : Int))) = true then
                  if (decide (5 < l1210.length)) = true then
                   if (!(List.beq (ByteArray.toList (l1210.getD 5 ByteArray.empty)) (ByteArray.toList (ByteArray.mk (List.toArray [(111 : UInt8), (108 : UInt8), (100 : UInt8)]))))) = true then
                    if (decide ((5 : Int) < ((l1210.length : Nat) : Int))) = true then
                     if (decide (5 < l1210.length)) = true then
                      if (!(List.beq (ByteArray.toList (l1210.getD 5 ByteArray.empty)) (ByteArray.toList (ByteArray.mk (List.toArray [(110 : UInt8), (101 : UInt8), (119 : UInt8)]))))) = true then
                       some (.inl (Go.IntKind.wrap .i64 (i6 + (1 : Int))))
                      else
                       ((ref07_Ranges_c14 (i6, (l5000, (l1110, (l1210, (h108_0, h108_1))))))).bind fun (r2_0, r2_1, r2_2) =>
                        some (.inr (r2_0, (r2_1, r2_2)))
                     else
                      none
                    else
                     none
                   else
                    ((ref07_Ranges_c14 (i6, (l5000, (l1110, (l1210, (h108_0, h108_1))))))).bind fun (r3_0, r3_1, r3_2) =>
                     some (.inr (r3_0, (r3_1, r3_2)))
                  else
                   none
                 else
                  none
               else
                none
              else
               none
             else
              if (decide ((5 : Int) < ((l1210.length : Nat) : Int))) = true then
               if (decide (5 < l1210.length)) = true then
                if (!(List.beq (ByteArray.toList (l1210.getD 5 ByteArray.empty)) (ByteArray.toList (ByteArray.mk (List.toArray [(111 : UInt8), (108 : UInt8), (100 : UInt8)]))))) = true then
                 if (decide ((5 : Int) < ((l1210.length : Nat) : Int))) = true then
                  if (decide (5 < l1210.length)) = true then
                   if (!(List.beq (ByteArray.toList (l1210.getD 5 ByteArray.empty)) (ByteArray.toList (ByteArray.mk (List.toArray [(110 : UInt8), (101 : UInt8), (119 : UInt8)]))))) = true then
                    some (.inl (Go.IntKind.wrap .i64 (i6 + (1 : Int))))
                   else
                    ((ref07_Ranges_c14 (i6, (l5000, (l1110, (l1210, (h108_0, h108_1))))))).bind fun (r4_0, r4_1, r4_2) =>
                     some (.inr (r4_0, (r4_1, r4_2)))
                  else
                   none
                 else
                  none
                else
                 ((ref07_Ranges_c14 (i6, (l5000, (l1110, (l1210, (h108_0, h108_1))))))).bind fun (r5_0, r5_1, r5_2) =>
                  some (.inr (r5_0, (r5_1, r5_2)))
               else
                none
              else
               none
            else
             none
           else
            none
          else
           if (decide ((5 : Int) < ((l1210.length : Nat) : Int))) = true then
            if (decide (5 < l1210.length)) = true then
             if (!(List.beq (ByteArray.toList (l1210.getD 5 ByteArray.empty)) (ByteArray.toList (ByteArray.mk (List.toArray [(111 : UInt8), (108 : UInt8), (100 : UInt8)]))))) = true then
              if (decide ((5 : Int) < ((l1210.length : Nat) : Int))) = true then
               if (decide (5 < l1210.length)) = true then
                if (!(List.beq (ByteArray.toList (l1210.getD 5 ByteArray.empty)) (ByteArray.toList (ByteArray.mk (List.toArray [(110 : UInt8), (101 : UInt8), (119 : UInt8)]))))) = true then
                 some (.inl (Go.IntKind.wrap .i64 (i6 + (1 : Int))))
                else
                 ((ref07_Ranges_c14 (i6, (l5000, (l1110, (l1210, (h108_0, h108_1))))))).bind fun (r6_0, r6_1, r6_2) =>
                  some (.inr (r6_0, (r6_1, r6_2)))
               else
                none
              else
               none
             else
              ((ref07_Ranges_c14 (i6, (l5000, (l1110, (l1210, (h108_0, h108_1))))))).bind fun (r7_0, r7_1, r7_2) =>
               some (.inr (r7_0, (r7_1, r7_2)))
            else
             none
           else
            none
         else
          none
        else
         none
       else
        if (decide ((5 : Int) < ((l1210.length : Nat) : Int))) = true then
         if (decide (5 < l1210.length)) = true then
          if (!(List.beq (ByteArray.toList (l1210.getD 5 ByteArray.empty)) (ByteArray.toList (ByteArray.mk (List.toArray [(111 : UInt8), (108 : UInt8), (100 : UInt8)]))))) = true then
           if (decide ((5 : Int) < ((l1210.length : Nat) : Int))) = true then
            if (decide (5 < l1210.length)) = true then
             if (!(List.beq (ByteArray.toList (l1210.getD 5 ByteArray.empty)) (ByteArray.toList (ByteArray.mk (List.toArray [(110 : UInt8), (101 : UInt8), (119 : UInt8)]))))) = true then
              some (.inl (Go.IntKind.wrap .i64 (i6 + (1 : Int))))
             else
              ((ref07_Ranges_c14 (i6, (l5000, (l1110, (l1210, (h108_0, h108_1))))))).bind fun (r8_0, r8_1, r8_2) =>
               some (.inr (r8_0, (r8_1, r8_2)))
            else
             none
           else
            none
          else
           ((ref07_Ranges_c14 (i6, (l5000, (l1110, (l1210, (h108_0, h108_1))))))).bind fun (r9_0, r9_1, r9_2) =>
            some (.inr (r9_0, (r9_1, r9_2)))
         else
          none
        else
         none
      else
       none
     else
      none
    else
     if (decide ((5 : Int) < ((l1210.length : Nat) : Int))) = true then
      if (decide (5 < l1210.length)) = true then
       if (!(List.beq (ByteArray.toList (l1210.getD 5 ByteArray.empty)) (ByteArray.toList (ByteArray.mk (List.toArray [(111 : UInt8), (108 : UInt8), (100 : UInt8)]))))) = true then
        if (decide ((5 : Int) < ((l1210.length : Nat) : Int))) = true then
         if (decide (5 < l1210.length)) = true then
          if (!(List.beq (ByteArray.toList (l1210.getD 5 ByteArray.empty)) (ByteArray.toList (ByteArray.mk (List.toArray [(110 : UInt8), (101 : UInt8), (119 : UInt8)]))))) = true then
           some (.inl (Go.IntKind.wrap .i64 (i6 + (1 : Int))))
          else
           ((ref07_Ranges_c14 (i6, (l5000, (l1110, (l1210, (h108_0, h108_1))))))).bind fun (r10_0, r10_1, r10_2) =>
            some (.inr (r10_0, (r10_1, r10_2)))
         else
          none
        else
         none
       else
        ((ref07_Ranges_c14 (i6, (l5000, (l1110, (l1210, (h108_0, h108_1))))))).bind fun (r11_0, r11_1, r11_2) =>
         some (.inr (r11_0, (r11_1, r11_2)))
      else
       none
     else
      none
   else
    none
  else
   none
noncomputable def ref07_Ranges_c9 : Int × List (Int × Int × ByteArray × ByteArray × ByteArray × Bool) × List (List (ByteArray)) × List (ByteArray) → Option (Int ⊕ (Int × List (Int × Int × ByteArray × ByteArray × ByteArray × Bool) × List (List (ByteArray)))) := fun
  | (i6, l5000, l1110, l1210) =>
  if (decide ((0 : Int) < ((l1210.length : Nat) : Int))) = true then
   if (decide (0 < l1210.length)) = true then
    if (decide ((1 : Int) < ((l1210.length : Nat) : Int))) = true then
     if (decide (1 < l1210.length)) = true then
      ((Go.Tx.ref07_span (l1210.getD 0 ByteArray.empty) (l1210.getD 1 ByteArray.empty))).bind fun (r0_0, r0_1, r0_2) =>
       if (!r0_0) = true then
        some (.inl (Go.IntKind.wrap .i64 (i6 + (1 : Int))))
       else
        if (decide (i6 > (0 : Int))) = true then
         if ((decide ((0 : Int) ≤ (Go.IntKind.wrap .i64 (i6 - (1 : Int))))) && (decide ((Go.IntKind.wrap .i64 (i6 - (1 : Int))) < ((l5000.length : Nat) : Int)))) = true then
          if (decide ((Go.IntKind.wrap .i64 (i6 - (1 : Int))).toNat < l5000.length)) = true then
           if (decide ((l5000.getD (Go.IntKind.wrap .i64 (i6 - (1 : Int))).toNat ((0 : Int), ((0 : Int), (ByteArray.empty, (ByteArray.empty, (ByteArray.empty, false)))))).2.1 ≥ r0_1)) = true then
            some (.inl (Go.IntKind.wrap .i64 (i6 + (1 : Int))))
           else
            if (decide ((2 : Int) < ((l1210.length : Nat) : Int))) = true then
             if (decide (2 < l1210.length)) = true then
              if ((((l1210.getD 2 ByteArray.empty).size : Nat) : Int) != (2 : Int)) = true then
               some (.inl (Go.IntKind.wrap .i64 (i6 + (1 : Int))))
              else
               if (decide ((2 : Int) < ((l1210.length : Nat) : Int))) = true then
                if (decide (2 < l1210.length)) = true then
                 if (decide ((1 : Int) ≤ (((l1210.getD 2 ByteArray.empty).size : Nat) : Int))) = true then
                  ((Go.Tx.ref07_all (ByteArray.extract (l1210.getD 2 ByteArray.empty) 0 1) (65 : Int) (90 : Int) (1 : Int) (1 : Int))).bind fun r1_0 =>
                   if (!r1_0) = true then
                    some (.inl (Go.IntKind.wrap .i64 (i6 + (1 : Int))))
                   else
                    if (decide ((2 : Int) < ((l1210.length : Nat) : Int))) = true then
                     if (decide (2 < l1210.length)) = true then
                      if (decide ((1 : Int) ≤ (((l1210.getD 2 ByteArray.empty).size : Nat) : Int))) = true then
                       ((Go.Tx.ref07_all (ByteArray.extract (l1210.getD 2 ByteArray.empty) 1 (l1210.getD 2 ByteArray.empty).size) (97 : Int) (122 : Int) (1 : Int) (1 : Int))).bind fun r2_0 =>
                        if (!r2_0) = true then
                         some (.inl (Go.IntKind.wrap .i64 (i6 + (1 : Int))))
                        else
                         if (decide ((3 : Int) < ((l1210.length : Nat) : Int))) = true then
                          if (decide (3 < l1210.length)) = true then
                           ((Go.Tx.ref07_all (l1210.getD 3 ByteArray.empty) (65 : Int) (90 : Int) (1 : Int) (3 : Int))).bind fun r3_0 =>
                            if (!r3_0) = true then
                             some (.inl (Go.IntKind.wrap .i64 (i6 + (1 : Int))))
                            else
                             ((ref07_Ranges_c12 (i6, (l5000, (l1110, (l1210, (r0_1, r0_2))))))).bind fun r4_0 =>
                              match r4_0 with
                              | .inl r5_0 =>
                               some (.inl r5_0)
                              | .inr (r6_0, r6_1, r6_2) =>
                               some (.inr (r6_0, (r6_1, r6_2)))
                          else
                           none
                         else
                          none
                      else
                       none
                     else
                      none
                    else
                     none
                 else
                  none
                else
                 none
               else
                none
             else
              none
            else
             none
          else
           none
         else
          none
        else
         if (decide ((2 : Int) < ((l1210.length : Nat) : Int))) = true then
          if (decide (2 < l1210.length)) = true then
           if ((((l1210.getD 2 ByteArray.empty).size : Nat) : Int) != (2 : Int)) = true then
            some (.inl (Go.IntKind.wrap .i64 (i6 + (1 : Int))))
           else
            if (decide ((2 : Int) < ((l1210.length : Nat) : Int))) = true then
             if (decide (2 < l1210.length)) = true then
              if (decide ((1 : Int) ≤ (((l1210.getD 2 ByteArray.empty).size : Nat) : Int))) = true then
               ((Go.Tx.ref07_all (ByteArray.extract (l1210.getD 2 ByteArray.empty) 0 1) (65 : Int) (90 : Int) (1 : Int) (1 : Int))).bind fun r7_0 =>
                if (!r7_0) = true then
                 some (.inl (Go.IntKind.wrap .i64 (i6 + (1 : Int))))
                else
                 if (decide ((2 : Int) < ((l1210.length : Nat) : Int))) = true then
                  if (decide (2 < l1210.length)) = true then
                   if (decide ((1 : Int) ≤ (((l1210.getD 2 ByteArray.empty).size : Nat) : Int))) = true then
                    ((Go.Tx.ref07_all (ByteArray.extract (l1210.getD 2 ByteArray.empty) 1 (l1210.getD 2 ByteArray.empty).size) (97 : Int) (122 : Int) (1 : Int) (1 : Int))).bind fun r8_0 =>
                     if (!r8_0) = true then
                      some (.inl (Go.IntKind.wrap .i64 (i6 + (1 : Int))))
                     else
                      if (decide ((3 : Int) < ((l1210.length : Nat) : Int))) = true then
                       if (decide (3 < l1210.length)) = true then
                        ((Go.Tx.ref07_all (l1210.getD 3 ByteArray.empty) (65 : Int) (90 : Int) (1 : Int) (3 : Int))).bind fun r9_0 =>
                         if (!r9_0) = true then
                          some (.inl (Go.IntKind.wrap .i64 (i6 + (1 : Int))))
                         else
                          ((ref07_Ranges_c12 (i6, (l5000, (l1110, (l1210, (r0_1, r0_2))))))).bind fun r10_0 =>
                           match r10_0 with
                           | .inl r11_0 =>
                            some (.inl r11_0)
                           | .inr (r12_0, r12_1, r12_2) =>
                            some (.inr (r12_0, (r12_1, r12_2)))
                       else
                        none
                      else
                       none
                   else
                    none
                  else
                   none
                 else
                  none
              else
               none
             else
              none
            else
             none
          else
           none
         else
          none
     else
      none
    else
     none
   else
    none
  else
   none
noncomputable def ref07_Ranges_c6 : Int × List (Int × Int × ByteArray × ByteArray × ByteArray × Bool) × List (List (ByteArray)) → Option (Int ⊕ (Int × List (Int × Int × ByteArray × ByteArray × ByteArray × Bool) × List (List (ByteArray)))) := fun
  | (i6, l5000, l1110) =>
  if ((decide ((0 : Int) ≤ i6)) && (decide (i6 < ((l1110.length : Nat) : Int)))) = true then
   if (decide (i6.toNat < l1110.length)) = true then
    if ((((l1110.getD i6.toNat []).length : Nat) : Int) != (6 : Int)) = true then
     some (.inl (Go.IntKind.wrap .i64 (i6 + (1 : Int))))
    else
     ((ref07_Ranges_c9 (i6, (l5000, (l1110, (l1110.getD i6.toNat [])))))).bind fun r0_0 =>
      match r0_0 with
      | .inl r1_0 =>
       some (.inl r1_0)
      | .inr (r2_0, r2_1, r2_2) =>
       ((ref07_Ranges_c5 (r2_0, (r2_1, r2_2)))).bind fun (r3_0, r3_1, r3_2) =>
        some (.inr (r3_0, (r3_1, r3_2)))
   else
    none
  else
   none
noncomputable def ref07_Ranges_b4 : Int × List (List (ByteArray)) × List (Int × Int × ByteArray × ByteArray × ByteArray × Bool) → Option ((Int × List (List (ByteArray)) × List (Int × Int × ByteArray × ByteArray × ByteArray × Bool)) ⊕ ((List (Int × Int × ByteArray × ByteArray × ByteArray × Bool)) ⊕ Int)) := fun
  | (i6, l1110, l5000) =>
  if (decide (i6 < ((l1110.length : Nat) : Int))) = true then
   ((ref07_Ranges_c6 (i6, (l5000, l1110)))).bind fun r0_0 =>
    match r0_0 with
    | .inl r1_0 =>
     some (.inr (.inr r1_0))
    | .inr (r2_0, r2_1, r2_2) =>
     some (.inl (r2_0, (r2_2, r2_1)))
  else
   some (.inr (.inl l5000))
noncomputable def ref07_Ranges (s0 : ByteArray) : Option ((Int × List (Int × Int × ByteArray × ByteArray × ByteArray × Bool))) :=
  ((Go.Tx.ref07_Lines s0)).bind fun r0_0 =>
   ((Go.Sx.runLoop ref07_Ranges_b4 ((0 : Int), (r0_0, [])))).bind fun r1_0 =>
    match r1_0 with
    | .inl r2_0 =>
     some ((0 : Int), r2_0)
    | .inr r3_0 =>
     some (r3_0, [])
end Go.Tx

namespace Go.Tx
open Go Go.Sx
noncomputable def ref07_Sets_b4 : Int × List (List (ByteArray)) × List (ByteArray × Int × Int) → Option ((Int × List (List (ByteArray)) × List (ByteArray × Int × Int)) ⊕ (Int ⊕ (List (ByteArray × Int × Int)))) := fun
  | (i6, l1100, l5000) =>
  if (decide (i6 < ((l1100.length : Nat) : Int))) = true then
   if ((decide ((0 : Int) ≤ i6)) && (decide (i6 < ((l1100.length : Nat) : Int)))) = true then
    if (decide (i6.toNat < l1100.length)) = true then
     if ((((l1100.getD i6.toNat []).length : Nat) : Int) != (3 : Int)) = true then
      some (.inr (.inl (Go.IntKind.wrap .i64 (i6 + (1 : Int)))))
     else
      if ((decide ((0 : Int) ≤ i6)) && (decide (i6 < ((l1100.length : Nat) : Int)))) = true then
       if (decide (i6.toNat < l1100.length)) = true then
        if (decide ((0 : Int) < (((l1100.getD i6.toNat []).length : Nat) : Int))) = true then
         if (decide (0 < (l1100.getD i6.toNat []).length)) = true then
          ((Go.Tx.ref07_all ((l1100.getD i6.toNat []).getD 0 ByteArray.empty) (65 : Int) (90 : Int) (1 : Int) (10 : Int))).bind fun r0_0 =>
           if (!r0_0) = true then
            some (.inr (.inl (Go.IntKind.wrap .i64 (i6 + (1 : Int)))))
           else
            if ((decide ((0 : Int) ≤ i6)) && (decide (i6 < ((l1100.length : Nat) : Int)))) = true then
             if (decide (i6.toNat < l1100.length)) = true then
              if (decide ((1 : Int) < (((l1100.getD i6.toNat []).length : Nat) : Int))) = true then
               if (decide (1 < (l1100.getD i6.toNat []).length)) = true then
                if ((decide ((0 : Int) ≤ i6)) && (decide (i6 < ((l1100.length : Nat) : Int)))) = true then
                 if (decide (i6.toNat < l1100.length)) = true then
                  if (decide ((2 : Int) < (((l1100.getD i6.toNat []).length : Nat) : Int))) = true then
                   if (decide (2 < (l1100.getD i6.toNat []).length)) = true then
                    ((Go.Tx.ref07_span ((l1100.getD i6.toNat []).getD 1 ByteArray.empty) ((l1100.getD i6.toNat []).getD 2 ByteArray.empty))).bind fun (r1_0, r1_1, r1_2) =>
                     if (!r1_0) = true then
                      some (.inr (.inl (Go.IntKind.wrap .i64 (i6 + (1 : Int)))))
                     else
                      if ((decide ((0 : Int) ≤ i6)) && (decide (i6 < ((l1100.length : Nat) : Int)))) = true then
                       if (decide (i6.toNat < l1100.length)) = true then
                        if (decide ((0 : Int) < (((l1100.getD i6.toNat []).length : Nat) : Int))) = true then
                         if (decide (0 < (l1100.getD i6.toNat []).length)) = true then
                          if (decide (((l5000.length + [(((l1100.getD i6.toNat []).getD 0 ByteArray.empty), (r1_1, r1_2))].length) * 24) ≤ 140737488355328)) = true then
                           some (.inl ((Go.IntKind.wrap .i64 (i6 + (1 : Int))), (l1100, (l5000 ++ [(((l1100.getD i6.toNat []).getD 0 ByteArray.empty), (r1_1, r1_2))]))))
                          else
                           none
                         else
                          none
                        else
                         none
                       else
                        none
                      else
                       none
                   else
                    none
                  else
                   none
                 else
                  none
                else
                 none
               else
                none
              else
               none
             else
              none
            else
             none
         else
          none
        else
         none
       else
        none
      else
       none
    else
     none
   else
    none
  else
   some (.inr (.inr l5000))
noncomputable def ref07_Sets (s0 : ByteArray) : Option ((Int × List (ByteArray × Int × Int))) :=
  ((Go.Tx.ref07_Lines s0)).bind fun r0_0 =>
   ((Go.Sx.runLoop ref07_Sets_b4 ((0 : Int), (r0_0, [])))).bind fun r1_0 =>
    match r1_0 with
    | .inl r2_0 =>
     some (r2_0, [])
    | .inr r3_0 =>
     some ((0 : Int), r3_0)
noncomputable def ref07_Decomps_c5 : Int × List (Int × List (Int) × Bool × Bool) × List (List (ByteArray)) → Option ((Int × List (Int × List (Int) × Bool × Bool) × List (List (ByteArray)))) := fun
  | (i6, l5000, l1110) =>
  some ((Go.IntKind.wrap .i64 (i6 + (1 : Int))), (l5000, l1110))
noncomputable def ref07_Decomps_c12 : Int × Int × List (Int × List (Int) × Bool × Bool) × List (List (ByteArray)) × List (ByteArray) × Int × Bool × Bool × List (Int) → Option ((Int × Int × List (Int × List (Int) × Bool × Bool) × List (List (ByteArray)) × List (ByteArray) × Int × Bool × Bool × List (Int))) := fun
  | (i6, k9, l5000, l1110, l1210, h108_0, h108_2, h108_3, l194) =>
  some (i6, ((Go.IntKind.wrap .i64 (k9 + (1 : Int))), (l5000, (l1110, (l1210, (h108_0, (h108_2, (h108_3, l194))))))))
noncomputable def ref07_Decomps_c15 : Int × Int × List (Int × List (Int) × Bool × Bool) × List (List (ByteArray)) × List (ByteArray) × Int × Bool × Bool × List (Int) → Option ((Int × Int × List (Int × List (Int) × Bool × Bool) × List (List (ByteArray)) × List (ByteArray) × Int × Bool × Bool × List (Int))) := fun
  | (i6, k9, l5000, l1110, l1210, h108_0, h108_2, h108_3, l5001) =>
  if ((decide ((0 : Int) ≤ k9)) && (decide (k9 < ((l1210.length : Nat) : Int)))) = true then
   if (decide (k9.toNat < l1210.length)) = true then
    ((Go.Tx.ref07_Point (l1210.getD k9.toNat ByteArray.empty))).bind fun r0_0 =>
     if (decide (((l5001.length + [(Go.IntKind.wrap .u32 r0_0)].length) * 4) ≤ 140737488355328)) = true then
      some (i6, (k9, (l5000, (l1110, (l1210, (h108_0, (h108_2, (h108_3, (l5001 ++ [(Go.IntKind.wrap .u32 r0_0)])))))))))
     else
      none
   else
    none
  else
   none
noncomputable def ref07_Decomps_c13 : Int × Int × List (Int × List (Int) × Bool × Bool) × List (List (ByteArray)) × List (ByteArray) × Int × Bool × Bool × List (Int) → Option (Int ⊕ (Int × Int × List (Int × List (Int) × Bool × Bool) × List (List (ByteArray)) × List (ByteArray) × Int × Bool × Bool × List (Int))) := fun
  | (i6, k9, l5000, l1110, l1210, h108_0, h108_2, h108_3, l5001) =>
  if ((decide ((0 : Int) ≤ k9)) && (decide (k9 < ((l1210.length : Nat) : Int)))) = true then
   if (decide (k9.toNat < l1210.length)) = true then
    ((Go.Tx.ref07_Point (l1210.getD k9.toNat ByteArray.empty))).bind fun r0_0 =>
     if (decide (r0_0 < (0 : Int))) = true then
      some (.inl (Go.IntKind.wrap .i64 (i6 + (1 : Int))))
     else
      ((ref07_Decomps_c15 (i6, (k9, (l5000, (l1110, (l1210, (h108_0, (h108_2, (h108_3, l5001)))))))))).bind fun (r1_0, r1_1, r1_2, r1_3, r1_4, r1_5, r1_6, r1_7, r1_8) =>
       ((ref07_Decomps_c12 (r1_0, (r1_1, (r1_2, (r1_3, (r1_4, (r1_5, (r1_6, (r1_7, r1_8)))))))))).bind fun (r2_0, r2_1, r2_2, r2_3, r2_4, r2_5, r2_6, r2_7, r2_8) =>
        some (.inr (r2_0, (r2_1, (r2_2, (r2_3, (r2_4, (r2_5, (r2_6, (r2_7, r2_8)))))))))
   else
    none
  else
   none
noncomputable def ref07_Decomps_b11 : Int × Int × List (Int × List (Int) × Bool × Bool) × List (List (ByteArray)) × List (ByteArray) × Int × Bool × Bool × List (Int) → Option ((Int × Int × List (Int × List (Int) × Bool × Bool) × List (List (ByteArray)) × List (ByteArray) × Int × Bool × Bool × List (Int)) ⊕ ((Int × List (Int × List (Int) × Bool × Bool) × List (List (ByteArray)) × Int × Bool × Bool × List (Int)) ⊕ Int)) := fun
  | (i6, k9, l5000, l1110, l1210, h108_0, h108_2, h108_3, l5001) =>
  if (decide (k9 < ((l1210.length : Nat) : Int))) = true then
   ((ref07_Decomps_c13 (i6, (k9, (l5000, (l1110, (l1210, (h108_0, (h108_2, (h108_3, l5001)))))))))).bind fun r0_0 =>
    match r0_0 with
    | .inl r1_0 =>
     some (.inr (.inr r1_0))
    | .inr (r2_0, r2_1, r2_2, r2_3, r2_4, r2_5, r2_6, r2_7, r2_8) =>
     some (.inl (r2_0, (r2_1, (r2_2, (r2_3, (r2_4, (r2_5, (r2_6, (r2_7, r2_8)))))))))
  else
   some (.inr (.inl (i6, (l5000, (l1110, (h108_0, (h108_2, (h108_3, l5001))))))))
noncomputable def ref07_Decomps_c18 : Int × List (Int × List (Int) × Bool × Bool) × List (List (ByteArray)) × Int × Bool × Bool × List (Int) → Option ((Int × List (Int × List (Int) × Bool × Bool) × List (List (ByteArray)))) := fun
  | (i6, l5000, l1110, h108_0, h108_2, h108_3, l5001) =>
  if (decide (((l5000.length + [(h108_0, (l5001, (h108_2, h108_3)))].length) * 40) ≤ 140737488355328)) = true then
   some (i6, ((l5000 ++ [(h108_0, (l5001, (h108_2, h108_3)))]), l1110))
  else
   none
noncomputable def ref07_Decomps_c9 : Int × List (Int × List (Int) × Bool × Bool) × List (List (ByteArray)) × List (ByteArray) → Option (Int ⊕ (Int × List (Int × List (Int) × Bool × Bool) × List (List (ByteArray)))) := fun
  | (i6, l5000, l1110, l1210) =>
  if (decide ((0 : Int) < ((l1210.length : Nat) : Int))) = true then
   if (decide (0 < l1210.length)) = true then
    ((Go.Tx.ref07_Point (l1210.getD 0 ByteArray.empty))).bind fun r0_0 =>
     if (decide ((1 : Int) < ((l1210.length : Nat) : Int))) = true then
      if (decide (1 < l1210.length)) = true then
       if (decide ((1 : Int) < ((l1210.length : Nat) : Int))) = true then
        if (decide (1 < l1210.length)) = true then
         ((Go.Sx.runLoop ref07_Decomps_b11 (i6, ((2 : Int), (l5000, (l1110, (l1210, ((Go.IntKind.wrap .u32 r0_0), ((List.beq (ByteArray.toList (l1210.getD 1 ByteArray.empty)) (ByteArray.toList (ByteArray.mk (List.toArray [(126 : UInt8)])))), ((List.beq (ByteArray.toList (l1210.getD 1 ByteArray.empty)) (ByteArray.toList (ByteArray.mk (List.toArray [(33 : UInt8)])))), [])))))))))).bind fun r1_0 =>
          match r1_0 with
          | .inl (r2_0, r2_1, r2_2, r2_3, r2_4, r2_5, r2_6) =>
           if (decide (r2_0 > (0 : Int))) = true then
            if ((decide ((0 : Int) ≤ (Go.IntKind.wrap .i64 (r2_0 - (1 : Int))))) && (decide ((Go.IntKind.wrap .i64 (r2_0 - (1 : Int))) < ((r2_1.length : Nat) : Int)))) = true then
             if (decide ((Go.IntKind.wrap .i64 (r2_0 - (1 : Int))).toNat < r2_1.length)) = true then
              if (decide ((r2_1.getD (Go.IntKind.wrap .i64 (r2_0 - (1 : Int))).toNat ((0 : Int), ([], (false, false)))).1 ≥ r2_3)) = true then
               some (.inl (Go.IntKind.wrap .i64 (r2_0 + (1 : Int))))
              else
               ((ref07_Decomps_c18 (r2_0, (r2_1, (r2_2, (r2_3, (r2_4, (r2_5, r2_6)))))))).bind fun (r3_0, r3_1, r3_2) =>
                some (.inr (r3_0, (r3_1, r3_2)))
             else
              none
            else
             none
           else
            ((ref07_Decomps_c18 (r2_0, (r2_1, (r2_2, (r2_3, (r2_4, (r2_5, r2_6)))))))).bind fun (r4_0, r4_1, r4_2) =>
             some (.inr (r4_0, (r4_1, r4_2)))
          | .inr r5_0 =>
           some (.inl r5_0)
        else
         none
       else
        none
      else
       none
     else
      none
   else
    none
  else
   none
noncomputable def ref07_Decomps_c6 : Int × List (Int × List (Int) × Bool × Bool) × List (List (ByteArray)) → Option (Int ⊕ (Int × List (Int × List (Int) × Bool × Bool) × List (List (ByteArray)))) := fun
  | (i6, l5000, l1110) =>
  if ((decide ((0 : Int) ≤ i6)) && (decide (i6 < ((l1110.length : Nat) : Int)))) = true then
   if (decide (i6.toNat < l1110.length)) = true then
    if (decide ((((l1110.getD i6.toNat []).length : Nat) : Int) < (3 : Int))) = true then
     some (.inl (Go.IntKind.wrap .i64 (i6 + (1 : Int))))
    else
     if (decide ((((l1110.getD i6.toNat []).length : Nat) : Int) > (5 : Int))) = true then
      some (.inl (Go.IntKind.wrap .i64 (i6 + (1 : Int))))
     else
      if (decide ((1 : Int) < (((l1110.getD i6.toNat []).length : Nat) : Int))) = true then
       if (decide (1 < (l1110.getD i6.toNat []).length)) = true then
        if (!(List.beq (ByteArray.toList ((l1110.getD i6.toNat []).getD 1 ByteArray.empty)) (ByteArray.toList (ByteArray.mk (List.toArray [(61 : UInt8)]))))) = true then
         if (decide ((1 : Int) < (((l1110.getD i6.toNat []).length : Nat) : Int))) = true then
          if (decide (1 < (l1110.getD i6.toNat []).length)) = true then
           if (!(List.beq (ByteArray.toList ((l1110.getD i6.toNat []).getD 1 ByteArray.empty)) (ByteArray.toList (ByteArray.mk (List.toArray [(33 : UInt8)]))))) = true then
            if (decide ((1 : Int) < (((l1110.getD i6.toNat []).length : Nat) : Int))) = true then
             if (decide (1 < (l1110.getD i6.toNat []).length)) = true then
              if (!(List.beq (ByteArray.toList ((l1110.getD i6.toNat []).getD 1 ByteArray.empty)) (ByteArray.toList (ByteArray.mk (List.toArray [(126 : UInt8)]))))) = true then
               some (.inl (Go.IntKind.wrap .i64 (i6 + (1 : Int))))
              else
               if (decide ((0 : Int) < (((l1110.getD i6.toNat []).length : Nat) : Int))) = true then
                if (decide (0 < (l1110.getD i6.toNat []).length)) = true then
                 ((Go.Tx.ref07_Point ((l1110.getD i6.toNat []).getD 0 ByteArray.empty))).bind fun r0_0 =>
                  if (decide (r0_0 < (0 : Int))) = true then
                   some (.inl (Go.IntKind.wrap .i64 (i6 + (1 : Int))))
                  else
                   ((ref07_Decomps_c9 (i6, (l5000, (l1110, (l1110.getD i6.toNat [])))))).bind fun r1_0 =>
                    match r1_0 with
                    | .inl r2_0 =>
                     some (.inl r2_0)
                    | .inr (r3_0, r3_1, r3_2) =>
                     ((ref07_Decomps_c5 (r3_0, (r3_1, r3_2)))).bind fun (r4_0, r4_1, r4_2) =>
                      some (.inr (r4_0, (r4_1, r4_2)))
                else
                 none
               else
                none
             else
              none
            else
             none
           else
            if (decide ((0 : Int) < (((l1110.getD i6.toNat []).length : Nat) : Int))) = true then
             if (decide (0 < (l1110.getD i6.toNat []).length)) = true then
              ((Go.Tx.ref07_Point ((l1110.getD i6.toNat []).getD 0 ByteArray.empty))).bind fun r5_0 =>
               if (decide (r5_0 < (0 : Int))) = true then
                some (.inl (Go.IntKind.wrap .i64 (i6 + (1 : Int))))
               else
                ((ref07_Decomps_c9 (i6, (l5000, (l1110, (l1110.getD i6.toNat [])))))).bind fun r6_0 =>
                 match r6_0 with
                 | .inl r7_0 =>
                  some (.inl r7_0)
                 | .inr (r8_0, r8_1, r8_2) =>
                  ((ref07_Decomps_c5 (r8_0, (r8_1, r8_2)))).bind fun (r9_0, r9_1, r9_2) =>
                   some (.inr (r9_0, (r9_1, r9_2)))
             else
              none
            else
             none
          else
           none
         else
          none
        else
         if (decide ((0 : Int) < (((l1110.getD i6.toNat []).length : Nat) : Int))) = true then
          if (decide (0 < (l1110.getD i6.toNat []).length)) = true then
           ((Go.Tx.ref07_Point ((l1110.getD i6.toNat []).getD 0 ByteArray.empty))).bind fun r10_0 =>
            if (decide (r10_0 < (0 : Int))) = true then
             some (.inl (Go.IntKind.wrap .i64 (i6 + (1 : Int))))
            else
             ((ref07_Decomps_c9 (i6, (l5000, (l1110, (l1110.getD i6.toNat [])))))).bind fun r11_0 =>
              match r11_0 with
              | .inl r12_0 =>
               some (.inl r12_0)
              | .inr (r13_0, r13_1, r13_2) =>
               ((ref07_Decomps_c5 (r13_0, (r13_1, r13_2)))).bind fun (r14_0, r14_1, r14_2) =>
                some (.inr (r14_0, (r14_1, r14_2)))
          else
           none
         else
          none
       else
        none
      else
       none
   else
    none
  else
   none
noncomputable def ref07_Decomps_b4 : Int × List (List (ByteArray)) × List (Int × List (Int) × Bool × Bool) → Option ((Int × List (List (ByteArray)) × List (Int × List (Int) × Bool × Bool)) ⊕ ((List (Int × List (Int) × Bool × Bool)) ⊕ Int)) := fun
  | (i6, l1110, l5000) =>
  if (decide (i6 < ((l1110.length : Nat) : Int))) = true then
   ((ref07_Decomps_c6 (i6, (l5000, l1110)))).bind fun r0_0 =>
    match r0_0 with
    | .inl r1_0 =>
     some (.inr (.inr r1_0))
    | .inr (r2_0, r2_1, r2_2) =>
     some (.inl (r2_0, (r2_2, r2_1)))
  else
   some (.inr (.inl l5000))
noncomputable def ref07_Decomps (s0 : ByteArray) : Option ((Int × List (Int × List (Int) × Bool × Bool))) :=
  ((Go.Tx.ref07_Lines s0)).bind fun r0_0 =>
   ((Go.Sx.runLoop ref07_Decomps_b4 ((0 : Int), (r0_0, [])))).bind fun r1_0 =>
    match r1_0 with
    | .inl r2_0 =>
     some ((0 : Int), r2_0)
    | .inr r3_0 =>
     some (r3_0, [])
end Go.Tx

namespace Go.Tx
open Go Go.Sx
noncomputable def ref08_New  : Option ((List (Int × Int × ByteArray × ByteArray × ByteArray × Bool) × List (Int × Int × Int) × List (Int × List (Int) × Bool × Bool) × List (Int × Int × Int) × List (Int × Int × Int) × List (ByteArray × Int × Int))) :=
  ((Go.Tx.ref07_Ranges (bigK Go.Proofs.Tryz.f11 0))).bind fun (r0_0, r0_1) =>
   ((Go.Tx.ref07_Classes (bigK Go.Proofs.Tryz.f11 1))).bind fun (r1_0, r1_1) =>
    ((Go.Tx.ref07_Decomps (bigK Go.Proofs.Tryz.f11 2))).bind fun (r2_0, r2_1) =>
     ((Go.Tx.ref07_Runs (bigK Go.Proofs.Tryz.f11 3))).bind fun (r3_0, r3_1) =>
      ((Go.Tx.ref07_Runs (bigK Go.Proofs.Tryz.f11 4))).bind fun (r4_0, r4_1) =>
       ((Go.Tx.ref07_Sets (bigK Go.Proofs.Tryz.f11 5))).bind fun (r5_0, r5_1) =>
        some (r0_1, (r1_1, (r2_1, (r3_1, (r4_1, r5_1)))))
noncomputable def ref08_Tables_Line_b2 : Int × Bool × Int × List (Int × Int × ByteArray × ByteArray × ByteArray × Bool) × List (Int × Int × Int) × List (Int × List (Int) × Bool × Bool) × List (Int × Int × Int) × List (Int × Int × Int) × List (ByteArray × Int × Int) → Option ((Int × Bool × Int × List (Int × Int × ByteArray × ByteArray × ByteArray × Bool) × List (Int × Int × Int) × List (Int × List (Int) × Bool × Bool) × List (Int × Int × Int) × List (Int × Int × Int) × List (ByteArray × Int × Int)) ⊕ ((Int × List (Int × Int × ByteArray × ByteArray × ByteArray × Bool) × List (Int × Int × Int) × List (Int × List (Int) × Bool × Bool) × List (Int × Int × Int) × List (Int × Int × Int) × List (ByteArray × Int × Int)) ⊕ (List (Int × Int × ByteArray × ByteArray × ByteArray × Bool) × List (Int × Int × Int) × List (Int × List (Int) × Bool × Bool) × List (Int × Int × Int) × List (Int × Int × Int) × List (ByteArray × Int × Int)))) := fun
  | (p1, compat2, i7, l0, l1, l2, l3, l4, l5) =>
  if (decide (i7 < ((l2.length : Nat) : Int))) = true then
   if ((decide ((0 : Int) ≤ i7)) && (decide (i7 < ((l2.length : Nat) : Int)))) = true then
    if (decide (i7.toNat < l2.length)) = true then
     if (decide ((l2.getD i7.toNat ((0 : Int), ([], (false, false)))).1 = p1)) = true then
      if compat2 = true then
       some (.inr (.inl (i7, (l0, (l1, (l2, (l3, (l4, l5))))))))
      else
       if ((decide ((0 : Int) ≤ i7)) && (decide (i7 < ((l2.length : Nat) : Int)))) = true then
        if (decide (i7.toNat < l2.length)) = true then
         if (!(l2.getD i7.toNat ((0 : Int), ([], (false, false)))).2.2.1) = true then
          some (.inr (.inl (i7, (l0, (l1, (l2, (l3, (l4, l5))))))))
         else
          some (.inl (p1, (compat2, ((Go.IntKind.wrap .i64 (i7 + (1 : Int))), (l0, (l1, (l2, (l3, (l4, l5)))))))))
        else
         none
       else
        none
     else
      some (.inl (p1, (compat2, ((Go.IntKind.wrap .i64 (i7 + (1 : Int))), (l0, (l1, (l2, (l3, (l4, l5)))))))))
    else
     none
   else
    none
  else
   some (.inr (.inr (l0, (l1, (l2, (l3, (l4, l5)))))))
noncomputable def ref08_Tables_Line (p1 : Int) (compat2 : Bool) (l0 : List (Int × Int × ByteArray × ByteArray × ByteArray × Bool)) (l1 : List (Int × Int × Int)) (l2 : List (Int × List (Int) × Bool × Bool)) (l3 : List (Int × Int × Int)) (l4 : List (Int × Int × Int)) (l5 : List (ByteArray × Int × Int)) : Option ((Int × List (Int × Int × ByteArray × ByteArray × ByteArray × Bool) × List (Int × Int × Int) × List (Int × List (Int) × Bool × Bool) × List (Int × Int × Int) × List (Int × Int × Int) × List (ByteArray × Int × Int))) :=
  ((Go.Sx.runLoop ref08_Tables_Line_b2 (p1, (compat2, ((0 : Int), (l0, (l1, (l2, (l3, (l4, l5)))))))))).bind fun r0_0 =>
   match r0_0 with
   | .inl (r1_0, r1_1, r1_2, r1_3, r1_4, r1_5, r1_6) =>
    some (r1_0, (r1_1, (r1_2, (r1_3, (r1_4, (r1_5, r1_6))))))
   | .inr (r2_0, r2_1, r2_2, r2_3, r2_4, r2_5) =>
    some ((-1 : Int), (r2_0, (r2_1, (r2_2, (r2_3, (r2_4, r2_5))))))
end Go.Tx

namespace Go.Tx
open Go Go.Sx
noncomputable def ref06_Has (s0_0 : Int) (s0_1 : Int) (x1 : Int) : Option (Bool) :=
  if (decide (s0_0 ≤ x1)) = true then
   some (decide (x1 ≤ s0_1))
  else
   some false
end Go.Tx
