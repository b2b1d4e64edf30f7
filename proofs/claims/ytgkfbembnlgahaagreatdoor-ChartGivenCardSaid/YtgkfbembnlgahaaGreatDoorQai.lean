/- Part 9 of the proof of the statement that the last part names; it asks for no condition of its own. Here: GenAwB, GenRA, GenR2A, GenR3A, Big, GenL7A, GenRB, GenR2B, GenR3B, GenL7B, PcCut, PcPoint, PcSplit, PcRead, PcAw. -/
import Derived.Test.YtgkfbembnlgahaaGreatDoorQag
import Derived.Test.YtgkfbembnlgahaaGreatDoorQah
import Derived.Test.YtgkfbembnlgahaaGreatDoorQae
import Derived.Test.YtgkfbembnlgahaaGreatDoorProg
import Derived.Lib.QuoteLoop
import Derived.Lib.RuneCount
import Derived.Lib.TrimAscii
import Derived.Laws.Bits64
import Derived.Lib.SplitLaws
/- Printed by the driver (wip/drv): the contracts of Go functions, checked. -/
set_option linter.all false
set_option linter.unusedVariables false
set_option maxRecDepth 100000
set_option maxHeartbeats 0
namespace Go.Tx
open Go Go.Sx
/-! internal/strconv.isPowerOfTwo -/
noncomputable def internal_strconv_isPowerOfTwo_i : Pat := ⟨[.b (.int .i64)], 8, [(0, .v)], []⟩
noncomputable def internal_strconv_isPowerOfTwo_o : Exits := [(.ret, ⟨[.b .bool], 8, [(2, .v)], []⟩)]
noncomputable def internal_strconv_isPowerOfTwo_s : TSum := TSum.of (baseC (fun _ => none) (fun _ => [])) (Go.Proofs.Tryz.f263.results.toList) 0 internal_strconv_isPowerOfTwo_i internal_strconv_isPowerOfTwo_o (fun v => internal_strconv_isPowerOfTwo v)
noncomputable def internal_strconv_isPowerOfTwo_z : Code := Option.getD Go.Proofs.Tryz.f263.body .skip
noncomputable def internal_strconv_isPowerOfTwo_x (gl : Glob) : TCtx := { baseC gl (lookS []) with inl := lookI [], fuel := 0, loops := lookL [], cuts := lookL [] }
theorem internal_strconv_isPowerOfTwo_v {gl : Glob} (hg : Gs gl) : ValidS Go.Proofs.Tryz.prog gl 263 internal_strconv_isPowerOfTwo_s := by
  refine validS_of (c := internal_strconv_isPowerOfTwo_x gl) ?_ hm_ Go.Proofs.Tryz.func263 (body := internal_strconv_isPowerOfTwo_z) ?_ ?_ ?_ ?_ ?_ ?_ ?_ ?_ ?_
  · exact tok_of tyB_ok cmpB_ok .nil .nil
  · kernel_rfl
  · rfl
  · exact annOK_by (l := []) (by kernel_rfl) (trivial)
  · exact fun v => Eq.symm (by kernel_rfl)
  · kernel_rfl
  · kernel_rfl
  · exact exitX_of (.cons (fun v => by kernel_rfl) .nil)
  · rfl
  · rfl
/-! math/bits.TrailingZeros -/
noncomputable def math_bits_TrailingZeros_i : Pat := ⟨[.b (.int .u64)], 8, [(0, .v)], []⟩
noncomputable def math_bits_TrailingZeros_o : Exits := [(.ret, ⟨[.b (.int .i64)], 8, [(2, .v)], []⟩)]
noncomputable def math_bits_TrailingZeros_s : TSum := TSum.of (baseC (fun _ => none) (fun _ => [])) (Go.Proofs.Tryz.f264.results.toList) 0 math_bits_TrailingZeros_i math_bits_TrailingZeros_o (fun v => math_bits_TrailingZeros v)
noncomputable def math_bits_TrailingZeros_z : Code := Option.getD Go.Proofs.Tryz.f264.body .skip
noncomputable def math_bits_TrailingZeros_x (gl : Glob) : TCtx := { baseC gl (lookS [(275, [bits_TrailingZeros64_s])]) with inl := lookI [], fuel := 0, loops := lookL [], cuts := lookL [] }
theorem math_bits_TrailingZeros_v {gl : Glob} (hg : Gs gl) : ValidS Go.Proofs.Tryz.prog gl 264 math_bits_TrailingZeros_s := by
  refine validS_of (c := math_bits_TrailingZeros_x gl) ?_ hm_ Go.Proofs.Tryz.func264 (body := math_bits_TrailingZeros_z) ?_ ?_ ?_ ?_ ?_ ?_ ?_ ?_ ?_
  · exact tok_of tyB_ok cmpB_ok (.cons (.cons (bits_TrailingZeros64_v hg) .nil) (hb_ 275 Go.Proofs.Tryz.func275 (by kernel_rfl) (by kernel_rfl)) .nil) .nil
  · kernel_rfl
  · rfl
  · exact annOK_by (l := []) (by kernel_rfl) (trivial)
  · exact fun v => Eq.symm (by kernel_rfl)
  · kernel_rfl
  · kernel_rfl
  · exact exitX_of (.cons (fun v => by kernel_rfl) .nil)
  · rfl
  · rfl
/-! internal/strconv.formatBits -/
noncomputable def internal_strconv_formatBits_i : Pat := ⟨[.b (.int .u64)], 102, [(0, (.lit (.slice none 0 0))), (1, .v), (2, (.lit (.int .i64 16))), (3, (.lit (.bool false))), (4, (.lit (.bool false)))], []⟩
noncomputable def internal_strconv_formatBits_o : Exits := [(.ret, ⟨[.b .str, .r [.b (.int .u8)]], 102, [(10, (.own 5000)), (11, .v)], [⟨5000, 0, .row true 5 [.b (.int .u8)]⟩]⟩)]
noncomputable def internal_strconv_formatBits_s : TSum := TSum.of (baseC (fun _ => none) (fun _ => [])) (Go.Proofs.Tryz.f234.results.toList) 0 internal_strconv_formatBits_i internal_strconv_formatBits_o (fun v => internal_strconv_formatBits v)
noncomputable def internal_strconv_formatBits_z : Code := Option.getD Go.Proofs.Tryz.f234.body .skip
noncomputable def internal_strconv_formatBits_x (gl : Glob) : TCtx := { baseC gl (lookS [(263, [internal_strconv_isPowerOfTwo_s]), (264, [math_bits_TrailingZeros_s])]) with inl := lookI [], fuel := 6, loops := lookL [], cuts := lookL [] }
theorem internal_strconv_formatBits_v {gl : Glob} (hg : Gs gl) : ValidS Go.Proofs.Tryz.prog gl 234 internal_strconv_formatBits_s := by
  refine validS_of (c := internal_strconv_formatBits_x gl) ?_ hm_ Go.Proofs.Tryz.func234 (body := internal_strconv_formatBits_z) ?_ ?_ ?_ ?_ ?_ ?_ ?_ ?_ ?_
  · exact tok_of tyB_ok cmpB_ok (.cons (.cons (internal_strconv_isPowerOfTwo_v hg) .nil) (hb_ 263 Go.Proofs.Tryz.func263 (by kernel_rfl) (by kernel_rfl)) (.cons (.cons (math_bits_TrailingZeros_v hg) .nil) (hb_ 264 Go.Proofs.Tryz.func264 (by kernel_rfl) (by kernel_rfl)) .nil)) .nil
  · kernel_rfl
  · rfl
  · exact annOK_by (l := []) (by kernel_rfl) (trivial)
  · exact fun v => Eq.symm (by kernel_rfl)
  · kernel_rfl
  · kernel_rfl
  · exact exitX_of (.cons (fun v => by kernel_rfl) .nil)
  · rfl
  · rfl
/-! internal/strconv.FormatUint -/
noncomputable def internal_strconv_FormatUint_i : Pat := ⟨[.b (.int .u64)], 32, [(0, .v), (1, (.lit (.int .i64 16)))], []⟩
noncomputable def internal_strconv_FormatUint_o : Exits := [(.ret, ⟨[.b .str], 32, [(4, .v)], []⟩)]
noncomputable def internal_strconv_FormatUint_s : TSum := TSum.of (baseC (fun _ => none) (fun _ => [])) (Go.Proofs.Tryz.f197.results.toList) 0 internal_strconv_FormatUint_i internal_strconv_FormatUint_o (fun v => internal_strconv_FormatUint v)
noncomputable def internal_strconv_FormatUint_z : Code := Option.getD Go.Proofs.Tryz.f197.body .skip
noncomputable def internal_strconv_FormatUint_x (gl : Glob) : TCtx := { baseC gl (lookS [(234, [internal_strconv_formatBits_s])]) with inl := lookI [], fuel := 0, loops := lookL [], cuts := lookL [] }
theorem internal_strconv_FormatUint_v {gl : Glob} (hg : Gs gl) : ValidS Go.Proofs.Tryz.prog gl 197 internal_strconv_FormatUint_s := by
  refine validS_of (c := internal_strconv_FormatUint_x gl) ?_ hm_ Go.Proofs.Tryz.func197 (body := internal_strconv_FormatUint_z) ?_ ?_ ?_ ?_ ?_ ?_ ?_ ?_ ?_
  · exact tok_of tyB_ok cmpB_ok (.cons (.cons (internal_strconv_formatBits_v hg) .nil) (hb_ 234 Go.Proofs.Tryz.func234 (by kernel_rfl) (by kernel_rfl)) .nil) .nil
  · kernel_rfl
  · rfl
  · exact annOK_by (l := []) (by kernel_rfl) (trivial)
  · exact fun v => Eq.symm (by kernel_rfl)
  · kernel_rfl
  · kernel_rfl
  · exact exitX_of (.cons (fun v => by kernel_rfl) .nil)
  · rfl
  · rfl
/-! strconv.FormatUint -/
noncomputable def strconv_FormatUint_i : Pat := ⟨[.b (.int .u64)], 8, [(0, .v), (1, (.lit (.int .i64 16)))], []⟩
noncomputable def strconv_FormatUint_o : Exits := [(.ret, ⟨[.b .str], 8, [(4, .v)], []⟩)]
noncomputable def strconv_FormatUint_s : TSum := TSum.of (baseC (fun _ => none) (fun _ => [])) (Go.Proofs.Tryz.f156.results.toList) 0 strconv_FormatUint_i strconv_FormatUint_o (fun v => strconv_FormatUint v)
noncomputable def strconv_FormatUint_z : Code := Option.getD Go.Proofs.Tryz.f156.body .skip
noncomputable def strconv_FormatUint_x (gl : Glob) : TCtx := { baseC gl (lookS [(197, [internal_strconv_FormatUint_s])]) with inl := lookI [], fuel := 0, loops := lookL [], cuts := lookL [] }
theorem strconv_FormatUint_v {gl : Glob} (hg : Gs gl) : ValidS Go.Proofs.Tryz.prog gl 156 strconv_FormatUint_s := by
  refine validS_of (c := strconv_FormatUint_x gl) ?_ hm_ Go.Proofs.Tryz.func156 (body := strconv_FormatUint_z) ?_ ?_ ?_ ?_ ?_ ?_ ?_ ?_ ?_
  · exact tok_of tyB_ok cmpB_ok (.cons (.cons (internal_strconv_FormatUint_v hg) .nil) (hb_ 197 Go.Proofs.Tryz.func197 (by kernel_rfl) (by kernel_rfl)) .nil) .nil
  · kernel_rfl
  · rfl
  · exact annOK_by (l := []) (by kernel_rfl) (trivial)
  · exact fun v => Eq.symm (by kernel_rfl)
  · kernel_rfl
  · kernel_rfl
  · exact exitX_of (.cons (fun v => by kernel_rfl) .nil)
  · rfl
  · rfl
/-! sabretache/chart.Points -/
noncomputable def chart_Points_l3 : Loop1 := ⟨⟨[.b (.int .i64), .b (.int .i64), .r [.b .str], .r [.b (.int .u32)]], 38, [(3, (.own 109)), (10, (.own 0)), (11, .v), (12, .v)], [⟨109, 0, .row true 9 [.b .str]⟩, ⟨0, 0, .row true 22 [.b (.int .u32)]⟩]⟩, [(.exit 0, ⟨[.r [.b .str], .r [.b (.int .u32)]], 38, [(3, (.own 109))], [⟨109, 0, .row true 9 [.b .str]⟩, ⟨0, 0, .row true 22 [.b (.int .u32)]⟩]⟩)], chart_Points_b3⟩
noncomputable def chart_Points_i : Pat := ⟨[.r [.b (.int .u32)]], 38, [(0, (.own 0))], [⟨0, 0, .row true 22 [.b (.int .u32)]⟩]⟩
noncomputable def chart_Points_o : Exits := [(.ret, ⟨[.b .str, .r [.b (.int .u32)]], 38, [(2, .v)], [⟨0, 0, .row true 22 [.b (.int .u32)]⟩]⟩)]
noncomputable def chart_Points_s : TSum := TSum.of (baseC (fun _ => none) (fun _ => [])) (Go.Proofs.Tryz.f95.results.toList) 1 chart_Points_i chart_Points_o (fun v => chart_Points v)
noncomputable def chart_Points_z : Code := Option.getD Go.Proofs.Tryz.f95.body .skip
noncomputable def chart_Points_x (gl : Glob) : TCtx := { baseC gl (lookS [(155, [strings_ToUpper_s]), (157, [strings_Repeat_s]), (158, [strings_Join_s]), (156, [strconv_FormatUint_s])]) with inl := lookI [], fuel := 0, loops := lookL [(3, chart_Points_l3)], cuts := lookL [] }
theorem chart_Points_v {gl : Glob} (hg : Gs gl) : ValidS Go.Proofs.Tryz.prog gl 95 chart_Points_s := by
  refine validS_of (c := chart_Points_x gl) ?_ hm_ Go.Proofs.Tryz.func95 (body := chart_Points_z) ?_ ?_ ?_ ?_ ?_ ?_ ?_ ?_ ?_
  · exact tok_of tyB_ok cmpB_ok (.cons (.cons (strings_ToUpper_v hg) .nil) (hb_ 155 Go.Proofs.Tryz.func155 (by kernel_rfl) (by kernel_rfl)) (.cons (.cons (strings_Repeat_v hg) .nil) (hb_ 157 Go.Proofs.Tryz.func157 (by kernel_rfl) (by kernel_rfl)) (.cons (.cons (strings_Join_v hg) .nil) (hb_ 158 Go.Proofs.Tryz.func158 (by kernel_rfl) (by kernel_rfl)) (.cons (.cons (strconv_FormatUint_v hg) .nil) (hb_ 156 Go.Proofs.Tryz.func156 (by kernel_rfl) (by kernel_rfl)) .nil)))) .nil
  · kernel_rfl
  · rfl
  · exact annOK_by (l := [∀ v, chart_Points_l3.body v = (roundT (chart_Points_x gl) chart_Points_l3.pat chart_Points_l3.exits (subAt [1, 1, 0, 1, 0, 0] chart_Points_z) v).run]) (by kernel_rfl) (⟨fun (a0, a1, a2, a3) => Eq.symm (by kernel_rfl), trivial⟩)
  · exact fun v => Eq.symm (by kernel_rfl)
  · kernel_rfl
  · kernel_rfl
  · exact exitX_of (.cons (fun v => by kernel_rfl) .nil)
  · rfl
  · rfl
/-! sabretache/sabretachelaw07.awake -/
noncomputable def law07_awake_i : Pat := ⟨[], 40, [], []⟩
noncomputable def law07_awake_o : Exits := [(.ret, ⟨[.b .bool], 40, [(0, .v)], []⟩)]
noncomputable def law07_awake_s : TSum := TSum.of (baseC (fun _ => none) (fun _ => [])) (Go.Proofs.Tryz.f43.results.toList) 0 law07_awake_i law07_awake_o (fun v => law07_awake )
noncomputable def law07_awake_z : Code := Option.getD Go.Proofs.Tryz.f43.body .skip
noncomputable def law07_awake_x (gl : Glob) : TCtx := { baseC gl (lookS [(44, [chart_Classes_s]), (95, [chart_Points_s])]) with inl := lookI [], fuel := 0, loops := lookL [], cuts := lookL [] }
theorem law07_awake_v {gl : Glob} (hg : Gs gl) : ValidS Go.Proofs.Tryz.prog gl 43 law07_awake_s := by
  refine validS_of (c := law07_awake_x gl) ?_ hm_ Go.Proofs.Tryz.func43 (body := law07_awake_z) ?_ ?_ ?_ ?_ ?_ ?_ ?_ ?_ ?_
  · exact tok_of tyB_ok cmpB_ok (.cons (.cons (chart_Classes_v hg) .nil) (hb_ 44 Go.Proofs.Tryz.func44 (by kernel_rfl) (by kernel_rfl)) (.cons (.cons (chart_Points_v hg) .nil) (hb_ 95 Go.Proofs.Tryz.func95 (by kernel_rfl) (by kernel_rfl)) .nil)) .nil
  · kernel_rfl
  · rfl
  · exact annOK_by (l := []) (by kernel_rfl) (trivial)
  · exact fun v => Eq.symm (by kernel_rfl)
  · kernel_rfl
  · kernel_rfl
  · exact exitX_of (.cons (fun v => by kernel_rfl) .nil)
  · rfl
  · rfl
end Go.Tx

/- Printed by the driver (wip/drv): Go functions as pure Lean ones. -/
set_option linter.all false
set_option linter.unusedVariables false
set_option maxRecDepth 100000
namespace Go.Tx
open Go Go.Sx
/-! sabretache/sabretacheref07.Split -/
noncomputable def ref07_Split_b3 : ByteArray × Int × Int × List (ByteArray) → Option ((ByteArray × Int × Int × List (ByteArray)) ⊕ (List (ByteArray))) := fun
  | (s0, at1, i6, l108) =>
  if (decide (i6 < ((s0.size : Nat) : Int))) = true then
   if ((decide ((0 : Int) ≤ i6)) && (decide (i6 < ((s0.size : Nat) : Int)))) = true then
    if (decide ((((s0.data.toList.getD i6.toNat (0 : UInt8)).toNat : Nat) : Int) = at1)) = true then
     if (decide (((l108.length + 1) * 16) ≤ 140737488355328)) = true then
      some (.inl (s0, (at1, ((Go.IntKind.wrap .i64 (i6 + (1 : Int))), (l108 ++ [(ByteArray.mk (List.toArray []))])))))
     else
      none
    else
     if ((decide ((0 : Int) ≤ (Go.IntKind.wrap .i64 (((l108.length : Nat) : Int) - (1 : Int))))) && (decide ((Go.IntKind.wrap .i64 (((l108.length : Nat) : Int) - (1 : Int))) < ((l108.length : Nat) : Int)))) = true then
      if (decide ((Go.IntKind.wrap .i64 (((l108.length : Nat) : Int) - (1 : Int))).toNat < l108.length)) = true then
       if (((decide ((0 : Int) ≤ i6)) && (decide (i6 ≤ (Go.IntKind.wrap .i64 (i6 + (1 : Int)))))) && (decide ((Go.IntKind.wrap .i64 (i6 + (1 : Int))) ≤ ((s0.size : Nat) : Int)))) = true then
        if (decide (((l108.getD (Go.IntKind.wrap .i64 (((l108.length : Nat) : Int) - (1 : Int))).toNat ByteArray.empty).size + (ByteArray.extract s0 i6.toNat (Go.IntKind.wrap .i64 (i6 + (1 : Int))).toNat).size) ≤ 9223372036854775807)) = true then
         if ((decide ((0 : Int) ≤ (Go.IntKind.wrap .i64 (((l108.length : Nat) : Int) - (1 : Int))))) && (decide ((Go.IntKind.wrap .i64 (((l108.length : Nat) : Int) - (1 : Int))) < ((l108.length : Nat) : Int)))) = true then
          if (decide ((Go.IntKind.wrap .i64 (((l108.length : Nat) : Int) - (1 : Int))).toNat < l108.length)) = true then
           some (.inl (s0, (at1, ((Go.IntKind.wrap .i64 (i6 + (1 : Int))), (List.set l108 (Go.IntKind.wrap .i64 (((l108.length : Nat) : Int) - (1 : Int))).toNat (ByteArray.append (l108.getD (Go.IntKind.wrap .i64 (((l108.length : Nat) : Int) - (1 : Int))).toNat ByteArray.empty) (ByteArray.extract s0 i6.toNat (Go.IntKind.wrap .i64 (i6 + (1 : Int))).toNat)))))))
          else
           none
         else
          none
        else
         none
       else
        none
      else
       none
     else
      none
   else
    none
  else
   some (.inr l108)
noncomputable def ref07_Split (s0 : ByteArray) (at1 : Int) : Option (List (ByteArray)) :=
  ((Go.Sx.runLoop ref07_Split_b3 (s0, (at1, ((0 : Int), [(ByteArray.mk (List.toArray []))]))))).bind fun r0_0 =>
   some r0_0
/-! sabretache/sabretacheref07.Lines -/
noncomputable def ref07_Lines_b6 : Int × List (ByteArray) × List (List (ByteArray)) → Option ((Int × List (ByteArray) × List (List (ByteArray))) ⊕ (List (List (ByteArray)))) := fun
  | (i5, l1100, l5000) =>
  if (decide (i5 < ((l1100.length : Nat) : Int))) = true then
   if ((decide ((0 : Int) ≤ i5)) && (decide (i5 < ((l1100.length : Nat) : Int)))) = true then
    if (decide (i5.toNat < l1100.length)) = true then
     ((Go.Tx.ref07_Split (l1100.getD i5.toNat ByteArray.empty) (32 : Int))).bind fun r0_0 =>
      if (decide (((l5000.length + [r0_0].length) * 24) ≤ 140737488355328)) = true then
       some (.inl ((Go.IntKind.wrap .i64 (i5 + (1 : Int))), (l1100, (l5000 ++ [r0_0]))))
      else
       none
    else
     none
   else
    none
  else
   some (.inr l5000)
noncomputable def ref07_Lines (s0 : ByteArray) : Option (List (List (ByteArray))) :=
  if (List.beq (ByteArray.toList s0) (ByteArray.toList (ByteArray.mk (List.toArray [])))) = true then
   some []
  else
   ((Go.Tx.ref07_Split s0 (10 : Int))).bind fun r0_0 =>
    ((Go.Sx.runLoop ref07_Lines_b6 ((0 : Int), (r0_0, [])))).bind fun r1_0 =>
     some r1_0
/-! sabretache/sabretacheref07.digit -/
noncomputable def ref07_digit (c0 : Int) : Option (Int) :=
  if (decide (c0 ≥ (48 : Int))) = true then
   if (decide (c0 ≤ (57 : Int))) = true then
    some (Go.IntKind.wrap .i64 (Go.IntKind.wrap .u8 (c0 - (48 : Int))))
   else
    if (decide (c0 ≥ (65 : Int))) = true then
     if (decide (c0 ≤ (70 : Int))) = true then
      some (Go.IntKind.wrap .i64 ((Go.IntKind.wrap .i64 (Go.IntKind.wrap .u8 (c0 - (65 : Int)))) + (10 : Int)))
     else
      some (-1 : Int)
    else
     some (-1 : Int)
  else
   if (decide (c0 ≥ (65 : Int))) = true then
    if (decide (c0 ≤ (70 : Int))) = true then
     some (Go.IntKind.wrap .i64 ((Go.IntKind.wrap .i64 (Go.IntKind.wrap .u8 (c0 - (65 : Int)))) + (10 : Int)))
    else
     some (-1 : Int)
   else
    some (-1 : Int)
/-! sabretache/sabretacheref07.Point -/
noncomputable def ref07_Point_b5 : ByteArray × Int × Int → Option ((ByteArray × Int × Int) ⊕ (Int ⊕ Int)) := fun
  | (s0, n3, i4) =>
  if (decide (i4 < ((s0.size : Nat) : Int))) = true then
   if ((decide ((0 : Int) ≤ i4)) && (decide (i4 < ((s0.size : Nat) : Int)))) = true then
    ((Go.Tx.ref07_digit (((s0.data.toList.getD i4.toNat (0 : UInt8)).toNat : Nat) : Int))).bind fun r0_0 =>
     if (decide (r0_0 < (0 : Int))) = true then
      some (.inr (.inr (-1 : Int)))
     else
      some (.inl (s0, ((Go.IntKind.wrap .i64 ((Go.IntKind.wrap .i64 (n3 * (16 : Int))) + r0_0)), (Go.IntKind.wrap .i64 (i4 + (1 : Int))))))
   else
    none
  else
   some (.inr (.inl n3))
noncomputable def ref07_Point (s0 : ByteArray) : Option (Int) :=
  if (decide (((s0.size : Nat) : Int) < (4 : Int))) = true then
   some (-1 : Int)
  else
   if (decide (((s0.size : Nat) : Int) > (6 : Int))) = true then
    some (-1 : Int)
   else
    if (decide (((s0.size : Nat) : Int) > (4 : Int))) = true then
     if (decide ((0 : Int) < ((s0.size : Nat) : Int))) = true then
      if (decide ((((s0.data.toList.getD 0 (0 : UInt8)).toNat : Nat) : Int) = (48 : Int))) = true then
       some (-1 : Int)
      else
       ((Go.Sx.runLoop ref07_Point_b5 (s0, ((0 : Int), (0 : Int))))).bind fun r0_0 =>
        match r0_0 with
        | .inl r1_0 =>
         if (decide (r1_0 > (1114111 : Int))) = true then
          some (-1 : Int)
         else
          some r1_0
        | .inr r2_0 =>
         some r2_0
     else
      none
    else
     ((Go.Sx.runLoop ref07_Point_b5 (s0, ((0 : Int), (0 : Int))))).bind fun r3_0 =>
      match r3_0 with
      | .inl r4_0 =>
       if (decide (r4_0 > (1114111 : Int))) = true then
        some (-1 : Int)
       else
        some r4_0
      | .inr r5_0 =>
       some r5_0
/-! sabretache/sabretacheref07.span -/
noncomputable def ref07_span (a0 : ByteArray) (b1 : ByteArray) : Option ((Bool × Int × Int)) :=
  ((Go.Tx.ref07_Point a0)).bind fun r0_0 =>
   ((Go.Tx.ref07_Point b1)).bind fun r1_0 =>
    if (decide (r0_0 < (0 : Int))) = true then
     some (false, ((0 : Int), (0 : Int)))
    else
     if (decide (r1_0 < (0 : Int))) = true then
      some (false, ((0 : Int), (0 : Int)))
     else
      if (decide (r0_0 > r1_0)) = true then
       some (false, ((0 : Int), (0 : Int)))
      else
       some (true, ((Go.IntKind.wrap .u32 r0_0), (Go.IntKind.wrap .u32 r1_0)))
/-! sabretache/sabretacheref07.all -/
noncomputable def ref07_all_b2 : ByteArray × Int × Int × Int × Int × Int → Option ((ByteArray × Int × Int × Int × Int × Int) ⊕ (Bool ⊕ (ByteArray × Int × Int))) := fun
  | (s0, from1, to2, least3, most4, i11) =>
  if (decide (i11 < ((s0.size : Nat) : Int))) = true then
   if ((decide ((0 : Int) ≤ i11)) && (decide (i11 < ((s0.size : Nat) : Int)))) = true then
    if (decide ((((s0.data.toList.getD i11.toNat (0 : UInt8)).toNat : Nat) : Int) < from1)) = true then
     some (.inr (.inl false))
    else
     if ((decide ((0 : Int) ≤ i11)) && (decide (i11 < ((s0.size : Nat) : Int)))) = true then
      if (decide ((((s0.data.toList.getD i11.toNat (0 : UInt8)).toNat : Nat) : Int) > to2)) = true then
       some (.inr (.inl false))
      else
       some (.inl (s0, (from1, (to2, (least3, (most4, (Go.IntKind.wrap .i64 (i11 + (1 : Int)))))))))
     else
      none
   else
    none
  else
   some (.inr (.inr (s0, (least3, most4))))
noncomputable def ref07_all (s0 : ByteArray) (from1 : Int) (to2 : Int) (least3 : Int) (most4 : Int) : Option (Bool) :=
  ((Go.Sx.runLoop ref07_all_b2 (s0, (from1, (to2, (least3, (most4, (0 : Int)))))))).bind fun r0_0 =>
   match r0_0 with
   | .inl r1_0 =>
    some r1_0
   | .inr (r2_0, r2_1, r2_2) =>
    if (decide (((r2_0.size : Nat) : Int) ≥ r2_1)) = true then
     some (decide (((r2_0.size : Nat) : Int) ≤ r2_2))
    else
     some false
/-! sabretache/sabretacheref07.number -/
noncomputable def ref07_number_b5 : ByteArray × Int × Int → Option ((ByteArray × Int × Int) ⊕ (Int)) := fun
  | (s0, n3, i4) =>
  if (decide (i4 < ((s0.size : Nat) : Int))) = true then
   if ((decide ((0 : Int) ≤ i4)) && (decide (i4 < ((s0.size : Nat) : Int)))) = true then
    some (.inl (s0, ((Go.IntKind.wrap .i64 ((Go.IntKind.wrap .i64 (n3 * (10 : Int))) + (Go.IntKind.wrap .i64 (Go.IntKind.wrap .u8 ((((s0.data.toList.getD i4.toNat (0 : UInt8)).toNat : Nat) : Int) - (48 : Int)))))), (Go.IntKind.wrap .i64 (i4 + (1 : Int))))))
   else
    none
  else
   some (.inr n3)
noncomputable def ref07_number (s0 : ByteArray) : Option (Int) :=
  ((Go.Tx.ref07_all s0 (48 : Int) (57 : Int) (1 : Int) (3 : Int))).bind fun r0_0 =>
   if (!r0_0) = true then
    some (0 : Int)
   else
    if (decide ((0 : Int) < ((s0.size : Nat) : Int))) = true then
     if (decide ((((s0.data.toList.getD 0 (0 : UInt8)).toNat : Nat) : Int) = (48 : Int))) = true then
      some (0 : Int)
     else
      ((Go.Sx.runLoop ref07_number_b5 (s0, ((0 : Int), (0 : Int))))).bind fun r1_0 =>
       if (decide (r1_0 > (254 : Int))) = true then
        some (0 : Int)
       else
        some r1_0
    else
     none
/-! sabretache/sabretacheref07.Classes -/
noncomputable def ref07_Classes_b4 : Int × List (List (ByteArray)) × List (Int × Int × Int) → Option ((Int × List (List (ByteArray)) × List (Int × Int × Int)) ⊕ (Int ⊕ (List (Int × Int × Int)))) := fun
  | (i6, l1110, l5000) =>
  if (decide (i6 < ((l1110.length : Nat) : Int))) = true then
   if ((decide ((0 : Int) ≤ i6)) && (decide (i6 < ((l1110.length : Nat) : Int)))) = true then
    if (decide (i6.toNat < l1110.length)) = true then
     if ((((l1110.getD i6.toNat []).length : Nat) : Int) != (3 : Int)) = true then
      some (.inr (.inl (Go.IntKind.wrap .i64 (i6 + (1 : Int)))))
     else
      if ((decide ((0 : Int) ≤ i6)) && (decide (i6 < ((l1110.length : Nat) : Int)))) = true then
       if (decide (i6.toNat < l1110.length)) = true then
        if (decide ((0 : Int) < (((l1110.getD i6.toNat []).length : Nat) : Int))) = true then
         if (decide (0 < (l1110.getD i6.toNat []).length)) = true then
          if ((decide ((0 : Int) ≤ i6)) && (decide (i6 < ((l1110.length : Nat) : Int)))) = true then
           if (decide (i6.toNat < l1110.length)) = true then
            if (decide ((1 : Int) < (((l1110.getD i6.toNat []).length : Nat) : Int))) = true then
             if (decide (1 < (l1110.getD i6.toNat []).length)) = true then
              ((Go.Tx.ref07_span ((l1110.getD i6.toNat []).getD 0 ByteArray.empty) ((l1110.getD i6.toNat []).getD 1 ByteArray.empty))).bind fun (r0_0, r0_1, r0_2) =>
               if ((decide ((0 : Int) ≤ i6)) && (decide (i6 < ((l1110.length : Nat) : Int)))) = true then
                if (decide (i6.toNat < l1110.length)) = true then
                 if (decide ((2 : Int) < (((l1110.getD i6.toNat []).length : Nat) : Int))) = true then
                  if (decide (2 < (l1110.getD i6.toNat []).length)) = true then
                   ((Go.Tx.ref07_number ((l1110.getD i6.toNat []).getD 2 ByteArray.empty))).bind fun r1_0 =>
                    if (!r0_0) = true then
                     some (.inr (.inl (Go.IntKind.wrap .i64 (i6 + (1 : Int)))))
                    else
                     if (decide (r1_0 = (0 : Int))) = true then
                      some (.inr (.inl (Go.IntKind.wrap .i64 (i6 + (1 : Int)))))
                     else
                      if (decide (i6 > (0 : Int))) = true then
                       if ((decide ((0 : Int) ≤ (Go.IntKind.wrap .i64 (i6 - (1 : Int))))) && (decide ((Go.IntKind.wrap .i64 (i6 - (1 : Int))) < ((l5000.length : Nat) : Int)))) = true then
                        if (decide ((Go.IntKind.wrap .i64 (i6 - (1 : Int))).toNat < l5000.length)) = true then
                         if (decide ((l5000.getD (Go.IntKind.wrap .i64 (i6 - (1 : Int))).toNat ((0 : Int), ((0 : Int), (0 : Int)))).2.1 ≥ r0_1)) = true then
                          some (.inr (.inl (Go.IntKind.wrap .i64 (i6 + (1 : Int)))))
                         else
                          if (decide (((l5000.length + [(r0_1, (r0_2, (Go.IntKind.wrap .u32 r1_0)))].length) * 12) ≤ 140737488355328)) = true then
                           some (.inl ((Go.IntKind.wrap .i64 (i6 + (1 : Int))), (l1110, (l5000 ++ [(r0_1, (r0_2, (Go.IntKind.wrap .u32 r1_0)))]))))
                          else
                           none
                        else
                         none
                       else
                        none
                      else
                       if (decide (((l5000.length + [(r0_1, (r0_2, (Go.IntKind.wrap .u32 r1_0)))].length) * 12) ≤ 140737488355328)) = true then
                        some (.inl ((Go.IntKind.wrap .i64 (i6 + (1 : Int))), (l1110, (l5000 ++ [(r0_1, (r0_2, (Go.IntKind.wrap .u32 r1_0)))]))))
                       else
                        none
                  else
                   none
                 else
                  none
                else
                 none
               else
                none
             else
              none
            else
             none
           else
            none
          else
           none
         else
          none
        else
         none
       else
        none
      else
       none
    else
     none
   else
    none
  else
   some (.inr (.inr l5000))
noncomputable def ref07_Classes (s0 : ByteArray) : Option ((Int × List (Int × Int × Int))) :=
  ((Go.Tx.ref07_Lines s0)).bind fun r0_0 =>
   ((Go.Sx.runLoop ref07_Classes_b4 ((0 : Int), (r0_0, [])))).bind fun r1_0 =>
    match r1_0 with
    | .inl r2_0 =>
     some (r2_0, [])
    | .inr r3_0 =>
     some ((0 : Int), r3_0)
/-! sabretache/sabretacheref07.Runs -/
noncomputable def ref07_Runs_b4 : Int × List (List (ByteArray)) × List (Int × Int × Int) → Option ((Int × List (List (ByteArray)) × List (Int × Int × Int)) ⊕ (Int ⊕ (List (Int × Int × Int)))) := fun
  | (i6, l1110, l5000) =>
  if (decide (i6 < ((l1110.length : Nat) : Int))) = true then
   if ((decide ((0 : Int) ≤ i6)) && (decide (i6 < ((l1110.length : Nat) : Int)))) = true then
    if (decide (i6.toNat < l1110.length)) = true then
     if ((((l1110.getD i6.toNat []).length : Nat) : Int) != (3 : Int)) = true then
      some (.inr (.inl (Go.IntKind.wrap .i64 (i6 + (1 : Int)))))
     else
      if ((decide ((0 : Int) ≤ i6)) && (decide (i6 < ((l1110.length : Nat) : Int)))) = true then
       if (decide (i6.toNat < l1110.length)) = true then
        if (decide ((0 : Int) < (((l1110.getD i6.toNat []).length : Nat) : Int))) = true then
         if (decide (0 < (l1110.getD i6.toNat []).length)) = true then
          if ((decide ((0 : Int) ≤ i6)) && (decide (i6 < ((l1110.length : Nat) : Int)))) = true then
           if (decide (i6.toNat < l1110.length)) = true then
            if (decide ((1 : Int) < (((l1110.getD i6.toNat []).length : Nat) : Int))) = true then
             if (decide (1 < (l1110.getD i6.toNat []).length)) = true then
              ((Go.Tx.ref07_span ((l1110.getD i6.toNat []).getD 0 ByteArray.empty) ((l1110.getD i6.toNat []).getD 1 ByteArray.empty))).bind fun (r0_0, r0_1, r0_2) =>
               if ((decide ((0 : Int) ≤ i6)) && (decide (i6 < ((l1110.length : Nat) : Int)))) = true then
                if (decide (i6.toNat < l1110.length)) = true then
                 if (decide ((2 : Int) < (((l1110.getD i6.toNat []).length : Nat) : Int))) = true then
                  if (decide (2 < (l1110.getD i6.toNat []).length)) = true then
                   ((Go.Tx.ref07_Point ((l1110.getD i6.toNat []).getD 2 ByteArray.empty))).bind fun r1_0 =>
                    if (!r0_0) = true then
                     some (.inr (.inl (Go.IntKind.wrap .i64 (i6 + (1 : Int)))))
                    else
                     if (decide (r1_0 < (0 : Int))) = true then
                      some (.inr (.inl (Go.IntKind.wrap .i64 (i6 + (1 : Int)))))
                     else
                      if (decide (i6 > (0 : Int))) = true then
                       if ((decide ((0 : Int) ≤ (Go.IntKind.wrap .i64 (i6 - (1 : Int))))) && (decide ((Go.IntKind.wrap .i64 (i6 - (1 : Int))) < ((l5000.length : Nat) : Int)))) = true then
                        if (decide ((Go.IntKind.wrap .i64 (i6 - (1 : Int))).toNat < l5000.length)) = true then
                         if (decide ((l5000.getD (Go.IntKind.wrap .i64 (i6 - (1 : Int))).toNat ((0 : Int), ((0 : Int), (0 : Int)))).2.1 ≥ r0_1)) = true then
                          some (.inr (.inl (Go.IntKind.wrap .i64 (i6 + (1 : Int)))))
                         else
                          if (decide (((l5000.length + [(r0_1, (r0_2, (Go.IntKind.wrap .u32 r1_0)))].length) * 12) ≤ 140737488355328)) = true then
                           some (.inl ((Go.IntKind.wrap .i64 (i6 + (1 : Int))), (l1110, (l5000 ++ [(r0_1, (r0_2, (Go.IntKind.wrap .u32 r1_0)))]))))
                          else
                           none
                        else
                         none
                       else
                        none
                      else
                       if (decide (((l5000.length + [(r0_1, (r0_2, (Go.IntKind.wrap .u32 r1_0)))].length) * 12) ≤ 140737488355328)) = true then
                        some (.inl ((Go.IntKind.wrap .i64 (i6 + (1 : Int))), (l1110, (l5000 ++ [(r0_1, (r0_2, (Go.IntKind.wrap .u32 r1_0)))]))))
                       else
                        none
                  else
                   none
                 else
                  none
                else
                 none
               else
                none
             else
              none
            else
             none
           else
            none
          else
           none
         else
          none
        else
         none
       else
        none
      else
       none
    else
     none
   else
    none
  else
   some (.inr (.inr l5000))
noncomputable def ref07_Runs (s0 : ByteArray) : Option ((Int × List (Int × Int × Int))) :=
  ((Go.Tx.ref07_Lines s0)).bind fun r0_0 =>
   ((Go.Sx.runLoop ref07_Runs_b4 ((0 : Int), (r0_0, [])))).bind fun r1_0 =>
    match r1_0 with
    | .inl r2_0 =>
     some (r2_0, [])
    | .inr r3_0 =>
     some ((0 : Int), r3_0)
end Go.Tx

/- Printed by the driver (wip/drv): Go functions as pure Lean ones. -/
set_option linter.all false
set_option linter.unusedVariables false
set_option maxRecDepth 100000
namespace Go.Tx
open Go Go.Sx
/-! sabretache/sabretacheref07.Ranges -/
noncomputable def ref07_Ranges_c5 : Int × List (Int × Int × ByteArray × ByteArray × ByteArray × Bool) × List (List (ByteArray)) → Option ((Int × List (Int × Int × ByteArray × ByteArray × ByteArray × Bool) × List (List (ByteArray)))) := fun
  | (i6, l5000, l1110) =>
  some ((Go.IntKind.wrap .i64 (i6 + (1 : Int))), (l5000, l1110))
noncomputable def ref07_Ranges_c14 : Int × List (Int × Int × ByteArray × ByteArray × ByteArray × Bool) × List (List (ByteArray)) × List (ByteArray) × Int × Int → Option ((Int × List (Int × Int × ByteArray × ByteArray × ByteArray × Bool) × List (List (ByteArray)))) := fun
  | (i6, l5000, l1110, l1210, h108_0, h108_1) =>
  if (decide ((2 : Int) < ((l1210.length : Nat) : Int))) = true then
   if (decide (2 < l1210.length)) = true then
    if (decide ((3 : Int) < ((l1210.length : Nat) : Int))) = true then
     if (decide (3 < l1210.length)) = true then
      if (decide ((4 : Int) < ((l1210.length : Nat) : Int))) = true then
       if (decide (4 < l1210.length)) = true then
        if (decide ((5 : Int) < ((l1210.length : Nat) : Int))) = true then
         if (decide (5 < l1210.length)) = true then
          if (decide (((l5000.length + [(h108_0, (h108_1, ((l1210.getD 2 ByteArray.empty), ((l1210.getD 3 ByteArray.empty), ((l1210.getD 4 ByteArray.empty), (List.beq (ByteArray.toList (l1210.getD 5 ByteArray.empty)) (ByteArray.toList (ByteArray.mk (List.toArray [(110 : UInt8), (101 : UInt8), (119 : UInt8)])))))))))].length) * 64) ≤ 140737488355328)) = true then
           some (i6, ((l5000 ++ [(h108_0, (h108_1, ((l1210.getD 2 ByteArray.empty), ((l1210.getD 3 ByteArray.empty), ((l1210.getD 4 ByteArray.empty), (List.beq (ByteArray.toList (l1210.getD 5 ByteArray.empty)) (ByteArray.toList (ByteArray.mk (List.toArray [(110 : UInt8), (101 : UInt8), (119 : UInt8)])))))))))]), l1110))
          else
           none
         else
          none
        else
         none
       else
        none
      else
       none
     else
      none
    else
     none
   else
    none
  else
   none
noncomputable def ref07_Ranges_c12 : Int × List (Int × Int × ByteArray × ByteArray × ByteArray × Bool) × List (List (ByteArray)) × List (ByteArray) × Int × Int → Option (Int ⊕ (Int × List (Int × Int × ByteArray × ByteArray × ByteArray × Bool) × List (List (ByteArray)))) := fun
  | (i6, l5000, l1110, l1210, h108_0, h108_1) =>
  if (decide ((4 : Int) < ((l1210.length : Nat) : Int))) = true then
   if (decide (4 < l1210.length)) = true then
    if (!(List.beq (ByteArray.toList (l1210.getD 4 ByteArray.empty)) (ByteArray.toList (ByteArray.mk (List.toArray [(85 : UInt8)]))))) = true then
     if (decide ((4 : Int) < ((l1210.length : Nat) : Int))) = true then
      if (decide (4 < l1210.length)) = true then
       if (!(List.beq (ByteArray.toList (l1210.getD 4 ByteArray.empty)) (ByteArray.toList (ByteArray.mk (List.toArray [(68 : UInt8)]))))) = true then
        if (decide ((4 : Int) < ((l1210.length : Nat) : Int))) = true then
         if (decide (4 < l1210.length)) = true then
          if (!(List.beq (ByteArray.toList (l1210.getD 4 ByteArray.empty)) (ByteArray.toList (ByteArray.mk (List.toArray [(82 : UInt8)]))))) = true then
           if (decide ((4 : Int) < ((l1210.length : Nat) : Int))) = true then
            if (decide (4 < l1210.length)) = true then
             if (!(List.beq (ByteArray.toList (l1210.getD 4 ByteArray.empty)) (ByteArray.toList (ByteArray.mk (List.toArray [(76 : UInt8)]))))) = true then
              if (decide ((4 : Int) < ((l1210.length : Nat) : Int))) = true then
               if (decide (4 < l1210.length)) = true then
                if (!(List.beq (ByteArray.toList (l1210.getD 4 ByteArray.empty)) (ByteArray.toList (ByteArray.mk (List.toArray [(67 : UInt8)]))))) = true then
                 if (decide ((4 : Int) < ((l1210.length : Nat) : Int))) = true then
                  if (decide (4 < l1210.length)) = true then
                   if (!(List.beq (ByteArray.toList (l1210.getD 4 ByteArray.empty)) (ByteArray.toList (ByteArray.mk (List.toArray [(84 : UInt8)]))))) = true then
                    some (.inl (Go.IntKind.wrap .i64 (i6 + (1 : Int))))
                   else
                    if (decide ((5 : Int) < ((l1210.length : Nat) : Int))) = true then
                     if (decide (5 < l1210.length)) = true then
                      if (!(List.beq (ByteArray.toList (l1210.getD 5 ByteArray.empty)) (ByteArray.toList (ByteArray.mk (List.toArray [(111 : UInt8), (108 : UInt8), (100 : UInt8)]))))) = true then
                       if (decide ((5 : Int) < ((l1210.length : Nat) : Int))) = true then
                        if (decide (5 < l1210.length)) = true then
                         if (!(List.beq (ByteArray.toList (l1210.getD 5 ByteArray.empty)) (ByteArray.toList (ByteArray.mk (List.toArray [(110 : UInt8), (101 : UInt8), (119 : UInt8)]))))) = true then
                          some (.inl (Go.IntKind.wrap .i64 (i6 + (1 : Int))))
                         else
                          ((ref07_Ranges_c14 (i6, (l5000, (l1110, (l1210, (h108_0, h108_1))))))).bind fun (r0_0, r0_1, r0_2) =>
                           some (.inr (r0_0, (r0_1, r0_2)))
                        else
                         none
                       else
                        none
                      else
                       ((ref07_Ranges_c14 (i6, (l5000, (l1110, (l1210, (h108_0, h108_1))))))).bind fun (r1_0, r1_1, r1_2) =>
                        some (.inr (r1_0, (r1_1, r1_2)))
                     else
                      none
                    else
                     none
                  else
                   none
                 else
                  none
                else
                 if (decide ((5 : Int) < ((l1210.length : Nat) : Int))) = true then
                  if (decide (5 < l1210.length)) = true then
                   if (!(List.beq (ByteArray.toList (l1210.getD 5 ByteArray.empty)) (ByteArray.toList (ByteArray.mk (List.toArray [(111 : UInt8), (108 : UInt8), (100 : UInt8)]))))) = true then
                    if (decide ((5 : Int) < ((l1210.length : Nat) : Int))) = true then
                     if (decide (5 < l1210.length)) = true then
                      if (!(List.beq (ByteArray.toList (l1210.getD 5 ByteArray.empty)) (ByteArray.toList (ByteArray.mk (List.toArray [(110 : UInt8), (101 : UInt8), (119 : UInt8)]))))) = true then
                       some (.inl (Go.IntKind.wrap .i64 (i6 + (1 : Int))))
                      else
                       ((ref07_Ranges_c14 (i6, (l5000, (l1110, (l1210, (h108_0, h108_1))))))).bind fun (r2_0, r2_1, r2_2) =>
                        some (.inr (r2_0, (r2_1, r2_2)))
                     else
                      none
                    else
                     none
                   else
                    ((ref07_Ranges_c14 (i6, (l5000, (l1110, (l1210, (h108_0, h108_1))))))).bind fun (r3_0, r3_1, r3_2) =>
                     some (.inr (r3_0, (r3_1, r3_2)))
                  else
                   none
                 else
                  none
               else
                none
              else
               none
             else
              if (decide ((5 : Int) < ((l1210.length : Nat) : Int))) = true then
               if (decide (5 < l1210.length)) = true then
                if (!(List.beq (ByteArray.toList (l1210.getD 5 ByteArray.empty)) (ByteArray.toList (ByteArray.mk (List.toArray [(111 : UInt8), (108 : UInt8), (100 : UInt8)]))))) = true then
                 if (decide ((5 : Int) < ((l1210.length : Nat) : Int))) = true then
                  if (decide (5 < l1210.length)) = true then
                   if (!(List.beq (ByteArray.toList (l1210.getD 5 ByteArray.empty)) (ByteArray.toList (ByteArray.mk (List.toArray [(110 : UInt8), (101 : UInt8), (119 : UInt8)]))))) = true then
                    some (.inl (Go.IntKind.wrap .i64 (i6 + (1 : Int))))
                   else
                    ((ref07_Ranges_c14 (i6, (l5000, (l1110, (l1210, (h108_0, h108_1))))))).bind fun (r4_0, r4_1, r4_2) =>
                     some (.inr (r4_0, (r4_1, r4_2)))
                  else
                   none
                 else
                  none
                else
                 ((ref07_Ranges_c14 (i6, (l5000, (l1110, (l1210, (h108_0, h108_1))))))).bind fun (r5_0, r5_1, r5_2) =>
                  some (.inr (r5_0, (r5_1, r5_2)))
               else
                none
              else
               none
            else
             none
           else
            none
          else
           if (decide ((5 : Int) < ((l1210.length : Nat) : Int))) = true then
            if (decide (5 < l1210.length)) = true then
             if (!(List.beq (ByteArray.toList (l1210.getD 5 ByteArray.empty)) (ByteArray.toList (ByteArray.mk (List.toArray [(111 : UInt8), (108 : UInt8), (100 : UInt8)]))))) = true then
              if (decide ((5 : Int) < ((l1210.length : Nat) : Int))) = true then
               if (decide (5 < l1210.length)) = true then
                if (!(List.beq (ByteArray.toList (l1210.getD 5 ByteArray.empty)) (ByteArray.toList (ByteArray.mk (List.toArray [(110 : UInt8), (101 : UInt8), (119 : UInt8)]))))) = true then
                 some (.inl (Go.IntKind.wrap .i64 (i6 + (1 : Int))))
                else
                 ((ref07_Ranges_c14 (i6, (l5000, (l1110, (l1210, (h108_0, h108_1))))))).bind fun (r6_0, r6_1, r6_2) =>
                  some (.inr (r6_0, (r6_1, r6_2)))
               else
                none
              else
               none
             else
              ((ref07_Ranges_c14 (i6, (l5000, (l1110, (l1210, (h108_0, h108_1))))))).bind fun (r7_0, r7_1, r7_2) =>
               some (.inr (r7_0, (r7_1, r7_2)))
            else
             none
           else
            none
         else
          none
        else
         none
       else
        if (decide ((5 : Int) < ((l1210.length : Nat) : Int))) = true then
         if (decide (5 < l1210.length)) = true then
          if (!(List.beq (ByteArray.toList (l1210.getD 5 ByteArray.empty)) (ByteArray.toList (ByteArray.mk (List.toArray [(111 : UInt8), (108 : UInt8), (100 : UInt8)]))))) = true then
           if (decide ((5 : Int) < ((l1210.length : Nat) : Int))) = true then
            if (decide (5 < l1210.length)) = true then
             if (!(List.beq (ByteArray.toList (l1210.getD 5 ByteArray.empty)) (ByteArray.toList (ByteArray.mk (List.toArray [(110 : UInt8), (101 : UInt8), (119 : UInt8)]))))) = true then
              some (.inl (Go.IntKind.wrap .i64 (i6 + (1 : Int))))
             else
              ((ref07_Ranges_c14 (i6, (l5000, (l1110, (l1210, (h108_0, h108_1))))))).bind fun (r8_0, r8_1, r8_2) =>
               some (.inr (r8_0, (r8_1, r8_2)))
            else
             none
           else
            none
          else
           ((ref07_Ranges_c14 (i6, (l5000, (l1110, (l1210, (h108_0, h108_1))))))).bind fun (r9_0, r9_1, r9_2) =>
            some (.inr (r9_0, (r9_1, r9_2)))
         else
          none
        else
         none
      else
       none
     else
      none
    else
     if (decide ((5 : Int) < ((l1210.length : Nat) : Int))) = true then
      if (decide (5 < l1210.length)) = true then
       if (!(List.beq (ByteArray.toList (l1210.getD 5 ByteArray.empty)) (ByteArray.toList (ByteArray.mk (List.toArray [(111 : UInt8), (108 : UInt8), (100 : UInt8)]))))) = true then
        if (decide ((5 : Int) < ((l1210.length : Nat) : Int))) = true then
         if (decide (5 < l1210.length)) = true then
          if (!(List.beq (ByteArray.toList (l1210.getD 5 ByteArray.empty)) (ByteArray.toList (ByteArray.mk (List.toArray [(110 : UInt8), (101 : UInt8), (119 : UInt8)]))))) = true then
           some (.inl (Go.IntKind.wrap .i64 (i6 + (1 : Int))))
          else
           ((ref07_Ranges_c14 (i6, (l5000, (l1110, (l1210, (h108_0, h108_1))))))).bind fun (r10_0, r10_1, r10_2) =>
            some (.inr (r10_0, (r10_1, r10_2)))
         else
          none
        else
         none
       else
        ((ref07_Ranges_c14 (i6, (l5000, (l1110, (l1210, (h108_0, h108_1))))))).bind fun (r11_0, r11_1, r11_2) =>
         some (.inr (r11_0, (r11_1, r11_2)))
      else
       none
     else
      none
   else
    none
  else
   none
noncomputable def ref07_Ranges_c9 : Int × List (Int × Int × ByteArray × ByteArray × ByteArray × Bool) × List (List (ByteArray)) × List (ByteArray) → Option (Int ⊕ (Int × List (Int × Int × ByteArray × ByteArray × ByteArray × Bool) × List (List (ByteArray)))) := fun
  | (i6, l5000, l1110, l1210) =>
  if (decide ((0 : Int) < ((l1210.length : Nat) : Int))) = true then
   if (decide (0 < l1210.length)) = true then
    if (decide ((1 : Int) < ((l1210.length : Nat) : Int))) = true then
     if (decide (1 < l1210.length)) = true then
      ((Go.Tx.ref07_span (l1210.getD 0 ByteArray.empty) (l1210.getD 1 ByteArray.empty))).bind fun (r0_0, r0_1, r0_2) =>
       if (!r0_0) = true then
        some (.inl (Go.IntKind.wrap .i64 (i6 + (1 : Int))))
       else
        if (decide (i6 > (0 : Int))) = true then
         if ((decide ((0 : Int) ≤ (Go.IntKind.wrap .i64 (i6 - (1 : Int))))) && (decide ((Go.IntKind.wrap .i64 (i6 - (1 : Int))) < ((l5000.length : Nat) : Int)))) = true then
          if (decide ((Go.IntKind.wrap .i64 (i6 - (1 : Int))).toNat < l5000.length)) = true then
           if (decide ((l5000.getD (Go.IntKind.wrap .i64 (i6 - (1 : Int))).toNat ((0 : Int), ((0 : Int), (ByteArray.empty, (ByteArray.empty, (ByteArray.empty, false)))))).2.1 ≥ r0_1)) = true then
            some (.inl (Go.IntKind.wrap .i64 (i6 + (1 : Int))))
           else
            if (decide ((2 : Int) < ((l1210.length : Nat) : Int))) = true then
             if (decide (2 < l1210.length)) = true then
              if ((((l1210.getD 2 ByteArray.empty).size : Nat) : Int) != (2 : Int)) = true then
               some (.inl (Go.IntKind.wrap .i64 (i6 + (1 : Int))))
              else
               if (decide ((2 : Int) < ((l1210.length : Nat) : Int))) = true then
                if (decide (2 < l1210.length)) = true then
                 if (decide ((1 : Int) ≤ (((l1210.getD 2 ByteArray.empty).size : Nat) : Int))) = true then
                  ((Go.Tx.ref07_all (ByteArray.extract (l1210.getD 2 ByteArray.empty) 0 1) (65 : Int) (90 : Int) (1 : Int) (1 : Int))).bind fun r1_0 =>
                   if (!r1_0) = true then
                    some (.inl (Go.IntKind.wrap .i64 (i6 + (1 : Int))))
                   else
                    if (decide ((2 : Int) < ((l1210.length : Nat) : Int))) = true then
                     if (decide (2 < l1210.length)) = true then
                      if (decide ((1 : Int) ≤ (((l1210.getD 2 ByteArray.empty).size : Nat) : Int))) = true then
                       ((Go.Tx.ref07_all (ByteArray.extract (l1210.getD 2 ByteArray.empty) 1 (l1210.getD 2 ByteArray.empty).size) (97 : Int) (122 : Int) (1 : Int) (1 : Int))).bind fun r2_0 =>
                        if (!r2_0) = true then
                         some (.inl (Go.IntKind.wrap .i64 (i6 + (1 : Int))))
                        else
                         if (decide ((3 : Int) < ((l1210.length : Nat) : Int))) = true then
                          if (decide (3 < l1210.length)) = true then
                           ((Go.Tx.ref07_all (l1210.getD 3 ByteArray.empty) (65 : Int) (90 : Int) (1 : Int) (3 : Int))).bind fun r3_0 =>
                            if (!r3_0) = true then
                             some (.inl (Go.IntKind.wrap .i64 (i6 + (1 : Int))))
                            else
                             ((ref07_Ranges_c12 (i6, (l5000, (l1110, (l1210, (r0_1, r0_2))))))).bind fun r4_0 =>
                              match r4_0 with
                              | .inl r5_0 =>
                               some (.inl r5_0)
                              | .inr (r6_0, r6_1, r6_2) =>
                               some (.inr (r6_0, (r6_1, r6_2)))
                          else
                           none
                         else
                          none
                      else
                       none
                     else
                      none
                    else
                     none
                 else
                  none
                else
                 none
               else
                none
             else
              none
            else
             none
          else
           none
         else
          none
        else
         if (decide ((2 : Int) < ((l1210.length : Nat) : Int))) = true then
          if (decide (2 < l1210.length)) = true then
           if ((((l1210.getD 2 ByteArray.empty).size : Nat) : Int) != (2 : Int)) = true then
            some (.inl (Go.IntKind.wrap .i64 (i6 + (1 : Int))))
           else
            if (decide ((2 : Int) < ((l1210.length : Nat) : Int))) = true then
             if (decide (2 < l1210.length)) = true then
              if (decide ((1 : Int) ≤ (((l1210.getD 2 ByteArray.empty).size : Nat) : Int))) = true then
               ((Go.Tx.ref07_all (ByteArray.extract (l1210.getD 2 ByteArray.empty) 0 1) (65 : Int) (90 : Int) (1 : Int) (1 : Int))).bind fun r7_0 =>
                if (!r7_0) = true then
                 some (.inl (Go.IntKind.wrap .i64 (i6 + (1 : Int))))
                else
                 if (decide ((2 : Int) < ((l1210.length : Nat) : Int))) = true then
                  if (decide (2 < l1210.length)) = true then
                   if (decide ((1 : Int) ≤ (((l1210.getD 2 ByteArray.empty).size : Nat) : Int))) = true then
                    ((Go.Tx.ref07_all (ByteArray.extract (l1210.getD 2 ByteArray.empty) 1 (l1210.getD 2 ByteArray.empty).size) (97 : Int) (122 : Int) (1 : Int) (1 : Int))).bind fun r8_0 =>
                     if (!r8_0) = true then
                      some (.inl (Go.IntKind.wrap .i64 (i6 + (1 : Int))))
                     else
                      if (decide ((3 : Int) < ((l1210.length : Nat) : Int))) = true then
                       if (decide (3 < l1210.length)) = true then
                        ((Go.Tx.ref07_all (l1210.getD 3 ByteArray.empty) (65 : Int) (90 : Int) (1 : Int) (3 : Int))).bind fun r9_0 =>
                         if (!r9_0) = true then
                          some (.inl (Go.IntKind.wrap .i64 (i6 + (1 : Int))))
                         else
                          ((ref07_Ranges_c12 (i6, (l5000, (l1110, (l1210, (r0_1, r0_2))))))).bind fun r10_0 =>
                           match r10_0 with
                           | .inl r11_0 =>
                            some (.inl r11_0)
                           | .inr (r12_0, r12_1, r12_2) =>
                            some (.inr (r12_0, (r12_1, r12_2)))
                       else
                        none
                      else
                       none
                   else
                    none
                  else
                   none
                 else
                  none
              else
               none
             else
              none
            else
             none
          else
           none
         else
          none
     else
      none
    else
     none
   else
    none
  else
   none
noncomputable def ref07_Ranges_c6 : Int × List (Int × Int × ByteArray × ByteArray × ByteArray × Bool) × List (List (ByteArray)) → Option (Int ⊕ (Int × List (Int × Int × ByteArray × ByteArray × ByteArray × Bool) × List (List (ByteArray)))) := fun
  | (i6, l5000, l1110) =>
  if ((decide ((0 : Int) ≤ i6)) && (decide (i6 < ((l1110.length : Nat) : Int)))) = true then
   if (decide (i6.toNat < l1110.length)) = true then
    if ((((l1110.getD i6.toNat []).length : Nat) : Int) != (6 : Int)) = true then
     some (.inl (Go.IntKind.wrap .i64 (i6 + (1 : Int))))
    else
     ((ref07_Ranges_c9 (i6, (l5000, (l1110, (l1110.getD i6.toNat [])))))).bind fun r0_0 =>
      match r0_0 with
      | .inl r1_0 =>
       some (.inl r1_0)
      | .inr (r2_0, r2_1, r2_2) =>
       ((ref07_Ranges_c5 (r2_0, (r2_1, r2_2)))).bind fun (r3_0, r3_1, r3_2) =>
        some (.inr (r3_0, (r3_1, r3_2)))
   else
    none
  else
   none
noncomputable def ref07_Ranges_b4 : Int × List (List (ByteArray)) × List (Int × Int × ByteArray × ByteArray × ByteArray × Bool) → Option ((Int × List (List (ByteArray)) × List (Int × Int × ByteArray × ByteArray × ByteArray × Bool)) ⊕ ((List (Int × Int × ByteArray × ByteArray × ByteArray × Bool)) ⊕ Int)) := fun
  | (i6, l1110, l5000) =>
  if (decide (i6 < ((l1110.length : Nat) : Int))) = true then
   ((ref07_Ranges_c6 (i6, (l5000, l1110)))).bind fun r0_0 =>
    match r0_0 with
    | .inl r1_0 =>
     some (.inr (.inr r1_0))
    | .inr (r2_0, r2_1, r2_2) =>
     some (.inl (r2_0, (r2_2, r2_1)))
  else
   some (.inr (.inl l5000))
noncomputable def ref07_Ranges (s0 : ByteArray) : Option ((Int × List (Int × Int × ByteArray × ByteArray × ByteArray × Bool))) :=
  ((Go.Tx.ref07_Lines s0)).bind fun r0_0 =>
   ((Go.Sx.runLoop ref07_Ranges_b4 ((0 : Int), (r0_0, [])))).bind fun r1_0 =>
    match r1_0 with
    | .inl r2_0 =>
     some ((0 : Int), r2_0)
    | .inr r3_0 =>
     some (r3_0, [])
end Go.Tx

/- Printed by the driver (wip/drv): Go functions as pure Lean ones. -/
set_option linter.all false
set_option linter.unusedVariables false
set_option maxRecDepth 100000
namespace Go.Tx
open Go Go.Sx
/-! sabretache/sabretacheref07.Sets -/
noncomputable def ref07_Sets_b4 : Int × List (List (ByteArray)) × List (ByteArray × Int × Int) → Option ((Int × List (List (ByteArray)) × List (ByteArray × Int × Int)) ⊕ (Int ⊕ (List (ByteArray × Int × Int)))) := fun
  | (i6, l1100, l5000) =>
  if (decide (i6 < ((l1100.length : Nat) : Int))) = true then
   if ((decide ((0 : Int) ≤ i6)) && (decide (i6 < ((l1100.length : Nat) : Int)))) = true then
    if (decide (i6.toNat < l1100.length)) = true then
     if ((((l1100.getD i6.toNat []).length : Nat) : Int) != (3 : Int)) = true then
      some (.inr (.inl (Go.IntKind.wrap .i64 (i6 + (1 : Int)))))
     else
      if ((decide ((0 : Int) ≤ i6)) && (decide (i6 < ((l1100.length : Nat) : Int)))) = true then
       if (decide (i6.toNat < l1100.length)) = true then
        if (decide ((0 : Int) < (((l1100.getD i6.toNat []).length : Nat) : Int))) = true then
         if (decide (0 < (l1100.getD i6.toNat []).length)) = true then
          ((Go.Tx.ref07_all ((l1100.getD i6.toNat []).getD 0 ByteArray.empty) (65 : Int) (90 : Int) (1 : Int) (10 : Int))).bind fun r0_0 =>
           if (!r0_0) = true then
            some (.inr (.inl (Go.IntKind.wrap .i64 (i6 + (1 : Int)))))
           else
            if ((decide ((0 : Int) ≤ i6)) && (decide (i6 < ((l1100.length : Nat) : Int)))) = true then
             if (decide (i6.toNat < l1100.length)) = true then
              if (decide ((1 : Int) < (((l1100.getD i6.toNat []).length : Nat) : Int))) = true then
               if (decide (1 < (l1100.getD i6.toNat []).length)) = true then
                if ((decide ((0 : Int) ≤ i6)) && (decide (i6 < ((l1100.length : Nat) : Int)))) = true then
                 if (decide (i6.toNat < l1100.length)) = true then
                  if (decide ((2 : Int) < (((l1100.getD i6.toNat []).length : Nat) : Int))) = true then
                   if (decide (2 < (l1100.getD i6.toNat []).length)) = true then
                    ((Go.Tx.ref07_span ((l1100.getD i6.toNat []).getD 1 ByteArray.empty) ((l1100.getD i6.toNat []).getD 2 ByteArray.empty))).bind fun (r1_0, r1_1, r1_2) =>
                     if (!r1_0) = true then
                      some (.inr (.inl (Go.IntKind.wrap .i64 (i6 + (1 : Int)))))
                     else
                      if ((decide ((0 : Int) ≤ i6)) && (decide (i6 < ((l1100.length : Nat) : Int)))) = true then
                       if (decide (i6.toNat < l1100.length)) = true then
                        if (decide ((0 : Int) < (((l1100.getD i6.toNat []).length : Nat) : Int))) = true then
                         if (decide (0 < (l1100.getD i6.toNat []).length)) = true then
                          if (decide (((l5000.length + [(((l1100.getD i6.toNat []).getD 0 ByteArray.empty), (r1_1, r1_2))].length) * 24) ≤ 140737488355328)) = true then
                           some (.inl ((Go.IntKind.wrap .i64 (i6 + (1 : Int))), (l1100, (l5000 ++ [(((l1100.getD i6.toNat []).getD 0 ByteArray.empty), (r1_1, r1_2))]))))
                          else
                           none
                         else
                          none
                        else
                         none
                       else
                        none
                      else
                       none
                   else
                    none
                  else
                   none
                 else
                  none
                else
                 none
               else
                none
              else
               none
             else
              none
            else
             none
         else
          none
        else
         none
       else
        none
      else
       none
    else
     none
   else
    none
  else
   some (.inr (.inr l5000))
noncomputable def ref07_Sets (s0 : ByteArray) : Option ((Int × List (ByteArray × Int × Int))) :=
  ((Go.Tx.ref07_Lines s0)).bind fun r0_0 =>
   ((Go.Sx.runLoop ref07_Sets_b4 ((0 : Int), (r0_0, [])))).bind fun r1_0 =>
    match r1_0 with
    | .inl r2_0 =>
     some (r2_0, [])
    | .inr r3_0 =>
     some ((0 : Int), r3_0)
/-! sabretache/sabretacheref07.Decomps -/
noncomputable def ref07_Decomps_c5 : Int × List (Int × List (Int) × Bool × Bool) × List (List (ByteArray)) → Option ((Int × List (Int × List (Int) × Bool × Bool) × List (List (ByteArray)))) := fun
  | (i6, l5000, l1110) =>
  some ((Go.IntKind.wrap .i64 (i6 + (1 : Int))), (l5000, l1110))
noncomputable def ref07_Decomps_c12 : Int × Int × List (Int × List (Int) × Bool × Bool) × List (List (ByteArray)) × List (ByteArray) × Int × Bool × Bool × List (Int) → Option ((Int × Int × List (Int × List (Int) × Bool × Bool) × List (List (ByteArray)) × List (ByteArray) × Int × Bool × Bool × List (Int))) := fun
  | (i6, k9, l5000, l1110, l1210, h108_0, h108_2, h108_3, l194) =>
  some (i6, ((Go.IntKind.wrap .i64 (k9 + (1 : Int))), (l5000, (l1110, (l1210, (h108_0, (h108_2, (h108_3, l194))))))))
noncomputable def ref07_Decomps_c15 : Int × Int × List (Int × List (Int) × Bool × Bool) × List (List (ByteArray)) × List (ByteArray) × Int × Bool × Bool × List (Int) → Option ((Int × Int × List (Int × List (Int) × Bool × Bool) × List (List (ByteArray)) × List (ByteArray) × Int × Bool × Bool × List (Int))) := fun
  | (i6, k9, l5000, l1110, l1210, h108_0, h108_2, h108_3, l5001) =>
  if ((decide ((0 : Int) ≤ k9)) && (decide (k9 < ((l1210.length : Nat) : Int)))) = true then
   if (decide (k9.toNat < l1210.length)) = true then
    ((Go.Tx.ref07_Point (l1210.getD k9.toNat ByteArray.empty))).bind fun r0_0 =>
     if (decide (((l5001.length + [(Go.IntKind.wrap .u32 r0_0)].length) * 4) ≤ 140737488355328)) = true then
      some (i6, (k9, (l5000, (l1110, (l1210, (h108_0, (h108_2, (h108_3, (l5001 ++ [(Go.IntKind.wrap .u32 r0_0)])))))))))
     else
      none
   else
    none
  else
   none
noncomputable def ref07_Decomps_c13 : Int × Int × List (Int × List (Int) × Bool × Bool) × List (List (ByteArray)) × List (ByteArray) × Int × Bool × Bool × List (Int) → Option (Int ⊕ (Int × Int × List (Int × List (Int) × Bool × Bool) × List (List (ByteArray)) × List (ByteArray) × Int × Bool × Bool × List (Int))) := fun
  | (i6, k9, l5000, l1110, l1210, h108_0, h108_2, h108_3, l5001) =>
  if ((decide ((0 : Int) ≤ k9)) && (decide (k9 < ((l1210.length : Nat) : Int)))) = true then
   if (decide (k9.toNat < l1210.length)) = true then
    ((Go.Tx.ref07_Point (l1210.getD k9.toNat ByteArray.empty))).bind fun r0_0 =>
     if (decide (r0_0 < (0 : Int))) = true then
      some (.inl (Go.IntKind.wrap .i64 (i6 + (1 : Int))))
     else
      ((ref07_Decomps_c15 (i6, (k9, (l5000, (l1110, (l1210, (h108_0, (h108_2, (h108_3, l5001)))))))))).bind fun (r1_0, r1_1, r1_2, r1_3, r1_4, r1_5, r1_6, r1_7, r1_8) =>
       ((ref07_Decomps_c12 (r1_0, (r1_1, (r1_2, (r1_3, (r1_4, (r1_5, (r1_6, (r1_7, r1_8)))))))))).bind fun (r2_0, r2_1, r2_2, r2_3, r2_4, r2_5, r2_6, r2_7, r2_8) =>
        some (.inr (r2_0, (r2_1, (r2_2, (r2_3, (r2_4, (r2_5, (r2_6, (r2_7, r2_8)))))))))
   else
    none
  else
   none
noncomputable def ref07_Decomps_b11 : Int × Int × List (Int × List (Int) × Bool × Bool) × List (List (ByteArray)) × List (ByteArray) × Int × Bool × Bool × List (Int) → Option ((Int × Int × List (Int × List (Int) × Bool × Bool) × List (List (ByteArray)) × List (ByteArray) × Int × Bool × Bool × List (Int)) ⊕ ((Int × List (Int × List (Int) × Bool × Bool) × List (List (ByteArray)) × Int × Bool × Bool × List (Int)) ⊕ Int)) := fun
  | (i6, k9, l5000, l1110, l1210, h108_0, h108_2, h108_3, l5001) =>
  if (decide (k9 < ((l1210.length : Nat) : Int))) = true then
   ((ref07_Decomps_c13 (i6, (k9, (l5000, (l1110, (l1210, (h108_0, (h108_2, (h108_3, l5001)))))))))).bind fun r0_0 =>
    match r0_0 with
    | .inl r1_0 =>
     some (.inr (.inr r1_0))
    | .inr (r2_0, r2_1, r2_2, r2_3, r2_4, r2_5, r2_6, r2_7, r2_8) =>
     some (.inl (r2_0, (r2_1, (r2_2, (r2_3, (r2_4, (r2_5, (r2_6, (r2_7, r2_8)))))))))
  else
   some (.inr (.inl (i6, (l5000, (l1110, (h108_0, (h108_2, (h108_3, l5001))))))))
noncomputable def ref07_Decomps_c18 : Int × List (Int × List (Int) × Bool × Bool) × List (List (ByteArray)) × Int × Bool × Bool × List (Int) → Option ((Int × List (Int × List (Int) × Bool × Bool) × List (List (ByteArray)))) := fun
  | (i6, l5000, l1110, h108_0, h108_2, h108_3, l5001) =>
  if (decide (((l5000.length + [(h108_0, (l5001, (h108_2, h108_3)))].length) * 40) ≤ 140737488355328)) = true then
   some (i6, ((l5000 ++ [(h108_0, (l5001, (h108_2, h108_3)))]), l1110))
  else
   none
noncomputable def ref07_Decomps_c9 : Int × List (Int × List (Int) × Bool × Bool) × List (List (ByteArray)) × List (ByteArray) → Option (Int ⊕ (Int × List (Int × List (Int) × Bool × Bool) × List (List (ByteArray)))) := fun
  | (i6, l5000, l1110, l1210) =>
  if (decide ((0 : Int) < ((l1210.length : Nat) : Int))) = true then
   if (decide (0 < l1210.length)) = true then
    ((Go.Tx.ref07_Point (l1210.getD 0 ByteArray.empty))).bind fun r0_0 =>
     if (decide ((1 : Int) < ((l1210.length : Nat) : Int))) = true then
      if (decide (1 < l1210.length)) = true then
       if (decide ((1 : Int) < ((l1210.length : Nat) : Int))) = true then
        if (decide (1 < l1210.length)) = true then
         ((Go.Sx.runLoop ref07_Decomps_b11 (i6, ((2 : Int), (l5000, (l1110, (l1210, ((Go.IntKind.wrap .u32 r0_0), ((List.beq (ByteArray.toList (l1210.getD 1 ByteArray.empty)) (ByteArray.toList (ByteArray.mk (List.toArray [(126 : UInt8)])))), ((List.beq (ByteArray.toList (l1210.getD 1 ByteArray.empty)) (ByteArray.toList (ByteArray.mk (List.toArray [(33 : UInt8)])))), [])))))))))).bind fun r1_0 =>
          match r1_0 with
          | .inl (r2_0, r2_1, r2_2, r2_3, r2_4, r2_5, r2_6) =>
           if (decide (r2_0 > (0 : Int))) = true then
            if ((decide ((0 : Int) ≤ (Go.IntKind.wrap .i64 (r2_0 - (1 : Int))))) && (decide ((Go.IntKind.wrap .i64 (r2_0 - (1 : Int))) < ((r2_1.length : Nat) : Int)))) = true then
             if (decide ((Go.IntKind.wrap .i64 (r2_0 - (1 : Int))).toNat < r2_1.length)) = true then
              if (decide ((r2_1.getD (Go.IntKind.wrap .i64 (r2_0 - (1 : Int))).toNat ((0 : Int), ([], (false, false)))).1 ≥ r2_3)) = true then
               some (.inl (Go.IntKind.wrap .i64 (r2_0 + (1 : Int))))
              else
               ((ref07_Decomps_c18 (r2_0, (r2_1, (r2_2, (r2_3, (r2_4, (r2_5, r2_6)))))))).bind fun (r3_0, r3_1, r3_2) =>
                some (.inr (r3_0, (r3_1, r3_2)))
             else
              none
            else
             none
           else
            ((ref07_Decomps_c18 (r2_0, (r2_1, (r2_2, (r2_3, (r2_4, (r2_5, r2_6)))))))).bind fun (r4_0, r4_1, r4_2) =>
             some (.inr (r4_0, (r4_1, r4_2)))
          | .inr r5_0 =>
           some (.inl r5_0)
        else
         none
       else
        none
      else
       none
     else
      none
   else
    none
  else
   none
noncomputable def ref07_Decomps_c6 : Int × List (Int × List (Int) × Bool × Bool) × List (List (ByteArray)) → Option (Int ⊕ (Int × List (Int × List (Int) × Bool × Bool) × List (List (ByteArray)))) := fun
  | (i6, l5000, l1110) =>
  if ((decide ((0 : Int) ≤ i6)) && (decide (i6 < ((l1110.length : Nat) : Int)))) = true then
   if (decide (i6.toNat < l1110.length)) = true then
    if (decide ((((l1110.getD i6.toNat []).length : Nat) : Int) < (3 : Int))) = true then
     some (.inl (Go.IntKind.wrap .i64 (i6 + (1 : Int))))
    else
     if (decide ((((l1110.getD i6.toNat []).length : Nat) : Int) > (5 : Int))) = true then
      some (.inl (Go.IntKind.wrap .i64 (i6 + (1 : Int))))
     else
      if (decide ((1 : Int) < (((l1110.getD i6.toNat []).length : Nat) : Int))) = true then
       if (decide (1 < (l1110.getD i6.toNat []).length)) = true then
        if (!(List.beq (ByteArray.toList ((l1110.getD i6.toNat []).getD 1 ByteArray.empty)) (ByteArray.toList (ByteArray.mk (List.toArray [(61 : UInt8)]))))) = true then
         if (decide ((1 : Int) < (((l1110.getD i6.toNat []).length : Nat) : Int))) = true then
          if (decide (1 < (l1110.getD i6.toNat []).length)) = true then
           if (!(List.beq (ByteArray.toList ((l1110.getD i6.toNat []).getD 1 ByteArray.empty)) (ByteArray.toList (ByteArray.mk (List.toArray [(33 : UInt8)]))))) = true then
            if (decide ((1 : Int) < (((l1110.getD i6.toNat []).length : Nat) : Int))) = true then
             if (decide (1 < (l1110.getD i6.toNat []).length)) = true then
              if (!(List.beq (ByteArray.toList ((l1110.getD i6.toNat []).getD 1 ByteArray.empty)) (ByteArray.toList (ByteArray.mk (List.toArray [(126 : UInt8)]))))) = true then
               some (.inl (Go.IntKind.wrap .i64 (i6 + (1 : Int))))
              else
               if (decide ((0 : Int) < (((l1110.getD i6.toNat []).length : Nat) : Int))) = true then
                if (decide (0 < (l1110.getD i6.toNat []).length)) = true then
                 ((Go.Tx.ref07_Point ((l1110.getD i6.toNat []).getD 0 ByteArray.empty))).bind fun r0_0 =>
                  if (decide (r0_0 < (0 : Int))) = true then
                   some (.inl (Go.IntKind.wrap .i64 (i6 + (1 : Int))))
                  else
                   ((ref07_Decomps_c9 (i6, (l5000, (l1110, (l1110.getD i6.toNat [])))))).bind fun r1_0 =>
                    match r1_0 with
                    | .inl r2_0 =>
                     some (.inl r2_0)
                    | .inr (r3_0, r3_1, r3_2) =>
                     ((ref07_Decomps_c5 (r3_0, (r3_1, r3_2)))).bind fun (r4_0, r4_1, r4_2) =>
                      some (.inr (r4_0, (r4_1, r4_2)))
                else
                 none
               else
                none
             else
              none
            else
             none
           else
            if (decide ((0 : Int) < (((l1110.getD i6.toNat []).length : Nat) : Int))) = true then
             if (decide (0 < (l1110.getD i6.toNat []).length)) = true then
              ((Go.Tx.ref07_Point ((l1110.getD i6.toNat []).getD 0 ByteArray.empty))).bind fun r5_0 =>
               if (decide (r5_0 < (0 : Int))) = true then
                some (.inl (Go.IntKind.wrap .i64 (i6 + (1 : Int))))
               else
                ((ref07_Decomps_c9 (i6, (l5000, (l1110, (l1110.getD i6.toNat [])))))).bind fun r6_0 =>
                 match r6_0 with
                 | .inl r7_0 =>
                  some (.inl r7_0)
                 | .inr (r8_0, r8_1, r8_2) =>
                  ((ref07_Decomps_c5 (r8_0, (r8_1, r8_2)))).bind fun (r9_0, r9_1, r9_2) =>
                   some (.inr (r9_0, (r9_1, r9_2)))
             else
              none
            else
             none
          else
           none
         else
          none
        else
         if (decide ((0 : Int) < (((l1110.getD i6.toNat []).length : Nat) : Int))) = true then
          if (decide (0 < (l1110.getD i6.toNat []).length)) = true then
           ((Go.Tx.ref07_Point ((l1110.getD i6.toNat []).getD 0 ByteArray.empty))).bind fun r10_0 =>
            if (decide (r10_0 < (0 : Int))) = true then
             some (.inl (Go.IntKind.wrap .i64 (i6 + (1 : Int))))
            else
             ((ref07_Decomps_c9 (i6, (l5000, (l1110, (l1110.getD i6.toNat [])))))).bind fun r11_0 =>
              match r11_0 with
              | .inl r12_0 =>
               some (.inl r12_0)
              | .inr (r13_0, r13_1, r13_2) =>
               ((ref07_Decomps_c5 (r13_0, (r13_1, r13_2)))).bind fun (r14_0, r14_1, r14_2) =>
                some (.inr (r14_0, (r14_1, r14_2)))
          else
           none
         else
          none
       else
        none
      else
       none
   else
    none
  else
   none
noncomputable def ref07_Decomps_b4 : Int × List (List (ByteArray)) × List (Int × List (Int) × Bool × Bool) → Option ((Int × List (List (ByteArray)) × List (Int × List (Int) × Bool × Bool)) ⊕ ((List (Int × List (Int) × Bool × Bool)) ⊕ Int)) := fun
  | (i6, l1110, l5000) =>
  if (decide (i6 < ((l1110.length : Nat) : Int))) = true then
   ((ref07_Decomps_c6 (i6, (l5000, l1110)))).bind fun r0_0 =>
    match r0_0 with
    | .inl r1_0 =>
     some (.inr (.inr r1_0))
    | .inr (r2_0, r2_1, r2_2) =>
     some (.inl (r2_0, (r2_2, r2_1)))
  else
   some (.inr (.inl l5000))
noncomputable def ref07_Decomps (s0 : ByteArray) : Option ((Int × List (Int × List (Int) × Bool × Bool))) :=
  ((Go.Tx.ref07_Lines s0)).bind fun r0_0 =>
   ((Go.Sx.runLoop ref07_Decomps_b4 ((0 : Int), (r0_0, [])))).bind fun r1_0 =>
    match r1_0 with
    | .inl r2_0 =>
     some ((0 : Int), r2_0)
    | .inr r3_0 =>
     some (r3_0, [])
end Go.Tx

/- The texts that a function of the program holds, in order: a name for each that is too long to be written out. -/
namespace Go.Tx
open Go
def strsO (o : Oper) : List ByteArray := o.op.operands.toList.filterMap fun x => match x with
  | .const (.string s) => some s
  | _ => none
def strsC : Code → List ByteArray
  | .region _ os _ => os.toList.flatMap strsO
  | .seq a b => strsC a ++ strsC b
  | .cond _ a b => strsC a ++ strsC b
  | .block _ a => strsC a
  | .loop a => strsC a
  | .scope a => strsC a
  | .rangeFunc _ _ a b => strsC a ++ strsC b
  | _ => []
/-- The k-th text of a function. -/
def bigK (f : Func) (k : Nat) : ByteArray := match f.body with
  | some c => (strsC c).getD k ByteArray.empty
  | none => ByteArray.empty
end Go.Tx

/- Printed by the driver (wip/drv): Go functions as pure Lean ones. -/
set_option linter.all false
set_option linter.unusedVariables false
set_option maxRecDepth 100000
namespace Go.Tx
open Go Go.Sx
/-! sabretache/sabretachelaw07.fits -/
noncomputable def law07_fits (e0 : Int) (at1 : Int) (want2 : Int) (count3 : Int) (n4 : Int) : Option (Bool) :=
  if (decide (want2 > (0 : Int))) = true then
   if (decide (e0 = (3 : Int))) = true then
    if (decide (at1 = want2)) = true then
     some (decide (count3 = (0 : Int)))
    else
     some false
   else
    some false
  else
   if (decide (e0 = (0 : Int))) = true then
    if (decide (at1 = (0 : Int))) = true then
     some (decide (count3 = n4))
    else
     some false
   else
    some false
/-! sabretache/sabretachelaw07.ChartClasses -/
noncomputable def law07_ChartClasses_b12 : Int × Int × List (Int × Int × Int) × List (Int × Int × Int) × List (Int × Int × Int) × List (Int × Int × Int) → Option ((Int × Int × List (Int × Int × Int) × List (Int × Int × Int) × List (Int × Int × Int) × List (Int × Int × Int)) ⊕ (Bool ⊕ (List (Int × Int × Int) × List (Int × Int × Int)))) := fun
  | (t63, t64, l1220, l1280, l1330, l1390) =>
  if (decide (t64 < t63)) = true then
   if ((decide ((0 : Int) ≤ t64)) && (decide (t64 < ((l1220.length : Nat) : Int)))) = true then
    if (decide (t64.toNat < l1220.length)) = true then
     if ((decide ((0 : Int) ≤ t64)) && (decide (t64 < ((l1280.length : Nat) : Int)))) = true then
      if (decide (t64.toNat < l1280.length)) = true then
       if (!((decide ((l1220.getD t64.toNat ((0 : Int), ((0 : Int), (0 : Int)))).1 = (l1280.getD t64.toNat ((0 : Int), ((0 : Int), (0 : Int)))).1)) && ((decide ((l1220.getD t64.toNat ((0 : Int), ((0 : Int), (0 : Int)))).2.1 = (l1280.getD t64.toNat ((0 : Int), ((0 : Int), (0 : Int)))).2.1)) && ((decide ((l1220.getD t64.toNat ((0 : Int), ((0 : Int), (0 : Int)))).2.2 = (l1280.getD t64.toNat ((0 : Int), ((0 : Int), (0 : Int)))).2.2)) && true)))) = true then
        some (.inr (.inl false))
       else
        some (.inl (t63, ((Go.IntKind.wrap .i64 (t64 + (1 : Int))), (l1220, (l1280, (l1330, l1390))))))
      else
       none
     else
      none
    else
     none
   else
    none
  else
   some (.inr (.inr (l1330, l1390)))
noncomputable def law07_ChartClasses_b18 : Int × Int × List (Int × Int × Int) × List (Int × Int × Int) → Option ((Int × Int × List (Int × Int × Int) × List (Int × Int × Int)) ⊕ (Bool ⊕ Unit)) := fun
  | (t78, t79, l1330, l1390) =>
  if (decide (t79 < t78)) = true then
   if ((decide ((0 : Int) ≤ t79)) && (decide (t79 < ((l1330.length : Nat) : Int)))) = true then
    if (decide (t79.toNat < l1330.length)) = true then
     if ((decide ((0 : Int) ≤ t79)) && (decide (t79 < ((l1390.length : Nat) : Int)))) = true then
      if (decide (t79.toNat < l1390.length)) = true then
       if (!((decide ((l1330.getD t79.toNat ((0 : Int), ((0 : Int), (0 : Int)))).1 = (l1390.getD t79.toNat ((0 : Int), ((0 : Int), (0 : Int)))).1)) && ((decide ((l1330.getD t79.toNat ((0 : Int), ((0 : Int), (0 : Int)))).2.1 = (l1390.getD t79.toNat ((0 : Int), ((0 : Int), (0 : Int)))).2.1)) && ((decide ((l1330.getD t79.toNat ((0 : Int), ((0 : Int), (0 : Int)))).2.2 = (l1390.getD t79.toNat ((0 : Int), ((0 : Int), (0 : Int)))).2.2)) && true)))) = true then
        some (.inr (.inl false))
       else
        some (.inl (t78, ((Go.IntKind.wrap .i64 (t79 + (1 : Int))), (l1330, l1390))))
      else
       none
     else
      none
    else
     none
   else
    none
  else
   some (.inr (.inr ()))
noncomputable def law07_ChartClasses (s0 : ByteArray) : Option (Bool) :=
  (Go.Tx.law07_awake).bind fun r0_0 =>
   if (!r0_0) = true then
    some false
   else
    if (decide (((s0.size : Nat) : Int) > (2000 : Int))) = true then
     some true
    else
     ((Go.Tx.chart_Classes s0)).bind fun (r1_0, r1_1, r1_2) =>
      ((Go.Tx.ref07_Classes s0)).bind fun (r2_0, r2_1) =>
       ((Go.Tx.chart_Runs s0)).bind fun (r3_0, r3_1, r3_2) =>
        ((Go.Tx.ref07_Runs s0)).bind fun (r4_0, r4_1) =>
         ((Go.Tx.law07_fits r1_0 r1_1 r2_0 ((r1_2.length : Nat) : Int) ((r2_1.length : Nat) : Int))).bind fun r5_0 =>
          if (!r5_0) = true then
           some false
          else
           ((Go.Tx.law07_fits r3_0 r3_1 r4_0 ((r3_2.length : Nat) : Int) ((r4_1.length : Nat) : Int))).bind fun r6_0 =>
            if (!r6_0) = true then
             some false
            else
             ((Go.Sx.runLoop law07_ChartClasses_b12 (((r1_2.length : Nat) : Int), ((0 : Int), (r1_2, (r2_1, (r3_2, r4_1))))))).bind fun r7_0 =>
              match r7_0 with
              | .inl r8_0 =>
               some r8_0
              | .inr (r9_0, r9_1) =>
               ((Go.Sx.runLoop law07_ChartClasses_b18 (((r9_0.length : Nat) : Int), ((0 : Int), (r9_0, r9_1))))).bind fun r10_0 =>
                match r10_0 with
                | .inl r11_0 =>
                 some r11_0
                | .inr _ =>
                 some true
/-! sabretache/sabretachelaw07.ChartGiven -/
noncomputable def law07_ChartGiven_c11 : Int × List (Int × Int × ByteArray × ByteArray × ByteArray × Bool) × List (Int × List (Int) × Bool × Bool) → Option (Bool) := fun
  | (n0, l1260, l1360) =>
  if (!(decide (((l1260.length : Nat) : Int) = (0 : Int)))) = true then
   if ((decide ((0 : Int) ≤ (Int.tmod (Go.IntKind.wrap .i64 n0) ((l1260.length : Nat) : Int)))) && (decide ((Int.tmod (Go.IntKind.wrap .i64 n0) ((l1260.length : Nat) : Int)) < ((l1260.length : Nat) : Int)))) = true then
    if (decide ((Int.tmod (Go.IntKind.wrap .i64 n0) ((l1260.length : Nat) : Int)).toNat < l1260.length)) = true then
     if (!(decide (((l1360.length : Nat) : Int) = (0 : Int)))) = true then
      if ((decide ((0 : Int) ≤ (Int.tmod (Go.IntKind.wrap .i64 n0) ((l1360.length : Nat) : Int)))) && (decide ((Int.tmod (Go.IntKind.wrap .i64 n0) ((l1360.length : Nat) : Int)) < ((l1360.length : Nat) : Int)))) = true then
       if (decide ((Int.tmod (Go.IntKind.wrap .i64 n0) ((l1360.length : Nat) : Int)).toNat < l1360.length)) = true then
        if (decide ((l1260.getD (Int.tmod (Go.IntKind.wrap .i64 n0) ((l1260.length : Nat) : Int)).toNat ((0 : Int), ((0 : Int), (ByteArray.empty, (ByteArray.empty, (ByteArray.empty, false)))))).1 ≤ (l1260.getD (Int.tmod (Go.IntKind.wrap .i64 n0) ((l1260.length : Nat) : Int)).toNat ((0 : Int), ((0 : Int), (ByteArray.empty, (ByteArray.empty, (ByteArray.empty, false)))))).2.1)) = true then
         if (decide ((((l1360.getD (Int.tmod (Go.IntKind.wrap .i64 n0) ((l1360.length : Nat) : Int)).toNat ((0 : Int), ([], (false, false)))).2.1.length : Nat) : Int) ≥ (1 : Int))) = true then
          some (decide ((((l1360.getD (Int.tmod (Go.IntKind.wrap .i64 n0) ((l1360.length : Nat) : Int)).toNat ((0 : Int), ([], (false, false)))).2.1.length : Nat) : Int) ≤ (3 : Int)))
         else
          some false
        else
         some false
       else
        none
      else
       none
     else
      none
    else
     none
   else
    none
  else
   none
noncomputable def law07_ChartGiven_c3 : Int → Option (Bool) := fun
  | n0 =>
  ((Go.Tx.chart_Ranges (bigK Go.Proofs.Tryz.f11 0))).bind fun (r0_0, r0_1, r0_2) =>
   ((Go.Tx.chart_Classes (bigK Go.Proofs.Tryz.f11 1))).bind fun (r1_0, r1_1, r1_2) =>
    ((Go.Tx.chart_Decomps (bigK Go.Proofs.Tryz.f11 2))).bind fun (r2_0, r2_1, r2_2) =>
     ((Go.Tx.chart_Runs (bigK Go.Proofs.Tryz.f11 3))).bind fun (r3_0, r3_1, r3_2) =>
      ((Go.Tx.chart_Runs (bigK Go.Proofs.Tryz.f11 4))).bind fun (r4_0, r4_1, r4_2) =>
       ((Go.Tx.chart_Sets (bigK Go.Proofs.Tryz.f11 5))).bind fun (r5_0, r5_1, r5_2) =>
        if (r0_0 != (0 : Int)) = true then
         some false
        else
         if (r1_0 != (0 : Int)) = true then
          some false
         else
          if (r2_0 != (0 : Int)) = true then
           some false
          else
           if (r3_0 != (0 : Int)) = true then
            some false
           else
            if (r4_0 != (0 : Int)) = true then
             some false
            else
             if (r5_0 != (0 : Int)) = true then
              some false
             else
              if (decide (((r0_2.length : Nat) : Int) < (300 : Int))) = true then
               some false
              else
               if (decide (((r1_2.length : Nat) : Int) < (40 : Int))) = true then
                some false
               else
                if (decide (((r2_2.length : Nat) : Int) < (400 : Int))) = true then
                 some false
                else
                 if (decide (((r3_2.length : Nat) : Int) < (20 : Int))) = true then
                  some false
                 else
                  if (decide (((r4_2.length : Nat) : Int) < (20 : Int))) = true then
                   some false
                  else
                   if (decide (((r5_2.length : Nat) : Int) < (30 : Int))) = true then
                    some false
                   else
                    ((law07_ChartGiven_c11 (n0, (r0_2, r2_2)))).bind fun r6_0 =>
                     some r6_0
noncomputable def law07_ChartGiven (n0 : Int) : Option (Bool) :=
  (Go.Tx.law07_awake).bind fun r0_0 =>
   if (!r0_0) = true then
    some false
   else
    ((law07_ChartGiven_c3 n0)).bind fun r1_0 =>
     some r1_0
/-! sabretache/sabretachelaw07.same -/
noncomputable def law07_same_b4 : Int × Int × List (Int) × List (Int) → Option ((Int × Int × List (Int) × List (Int)) ⊕ ((Bool × List (Int) × List (Int)) ⊕ (List (Int) × List (Int)))) := fun
  | (t12, t13, l0, l1) =>
  if (decide (t13 < t12)) = true then
   if ((decide ((0 : Int) ≤ t13)) && (decide (t13 < ((l0.length : Nat) : Int)))) = true then
    if (decide (t13.toNat < l0.length)) = true then
     if ((decide ((0 : Int) ≤ t13)) && (decide (t13 < ((l1.length : Nat) : Int)))) = true then
      if (decide (t13.toNat < l1.length)) = true then
       if ((l0.getD t13.toNat (0 : Int)) != (l1.getD t13.toNat (0 : Int))) = true then
        some (.inr (.inl (false, (l0, l1))))
       else
        some (.inl (t12, ((Go.IntKind.wrap .i64 (t13 + (1 : Int))), (l0, l1))))
      else
       none
     else
      none
    else
     none
   else
    none
  else
   some (.inr (.inr (l0, l1)))
noncomputable def law07_same (l0 : List (Int)) (l1 : List (Int)) : Option ((Bool × List (Int) × List (Int))) :=
  if (((l0.length : Nat) : Int) != ((l1.length : Nat) : Int)) = true then
   some (false, (l0, l1))
  else
   ((Go.Sx.runLoop law07_same_b4 (((l0.length : Nat) : Int), ((0 : Int), (l0, l1))))).bind fun r0_0 =>
    match r0_0 with
    | .inl (r1_0, r1_1, r1_2) =>
     some (r1_0, (r1_1, r1_2))
    | .inr (r2_0, r2_1) =>
     some (true, (r2_0, r2_1))
/-! sabretache/sabretachelaw07.ChartDecomps -/
noncomputable def law07_ChartDecomps_b10 : Int × Int × List (Int × List (Int) × Bool × Bool) × List (Int × List (Int) × Bool × Bool) → Option ((Int × Int × List (Int × List (Int) × Bool × Bool) × List (Int × List (Int) × Bool × Bool)) ⊕ (Bool ⊕ Unit)) := fun
  | (t35, t36, l1160, l1220) =>
  if (decide (t36 < t35)) = true then
   if ((decide ((0 : Int) ≤ t36)) && (decide (t36 < ((l1160.length : Nat) : Int)))) = true then
    if (decide (t36.toNat < l1160.length)) = true then
     if ((decide ((0 : Int) ≤ t36)) && (decide (t36 < ((l1220.length : Nat) : Int)))) = true then
      if (decide (t36.toNat < l1220.length)) = true then
       if ((l1160.getD t36.toNat ((0 : Int), ([], (false, false)))).1 != (l1220.getD t36.toNat ((0 : Int), ([], (false, false)))).1) = true then
        some (.inr (.inl false))
       else
        if ((decide ((0 : Int) ≤ t36)) && (decide (t36 < ((l1160.length : Nat) : Int)))) = true then
         if (decide (t36.toNat < l1160.length)) = true then
          if ((decide ((0 : Int) ≤ t36)) && (decide (t36 < ((l1220.length : Nat) : Int)))) = true then
           if (decide (t36.toNat < l1220.length)) = true then
            if (!(decide ((l1160.getD t36.toNat ((0 : Int), ([], (false, false)))).2.2.1 = (l1220.getD t36.toNat ((0 : Int), ([], (false, false)))).2.2.1))) = true then
             some (.inr (.inl false))
            else
             if ((decide ((0 : Int) ≤ t36)) && (decide (t36 < ((l1160.length : Nat) : Int)))) = true then
              if (decide (t36.toNat < l1160.length)) = true then
               if ((decide ((0 : Int) ≤ t36)) && (decide (t36 < ((l1220.length : Nat) : Int)))) = true then
                if (decide (t36.toNat < l1220.length)) = true then
                 if (!(decide ((l1160.getD t36.toNat ((0 : Int), ([], (false, false)))).2.2.2 = (l1220.getD t36.toNat ((0 : Int), ([], (false, false)))).2.2.2))) = true then
                  some (.inr (.inl false))
                 else
                  if ((decide ((0 : Int) ≤ t36)) && (decide (t36 < ((l1160.length : Nat) : Int)))) = true then
                   if (decide (t36.toNat < l1160.length)) = true then
                    if ((decide ((0 : Int) ≤ t36)) && (decide (t36 < ((l1220.length : Nat) : Int)))) = true then
                     if (decide (t36.toNat < l1220.length)) = true then
                      ((Go.Tx.law07_same (l1160.getD t36.toNat ((0 : Int), ([], (false, false)))).2.1 (l1220.getD t36.toNat ((0 : Int), ([], (false, false)))).2.1)).bind fun (r0_0, r0_1, r0_2) =>
                       if (!r0_0) = true then
                        some (.inr (.inl false))
                       else
                        some (.inl (t35, ((Go.IntKind.wrap .i64 (t36 + (1 : Int))), (l1160, l1220))))
                     else
                      none
                    else
                     none
                   else
                    none
                  else
                   none
                else
                 none
               else
                none
              else
               none
             else
              none
           else
            none
          else
           none
         else
          none
        else
         none
      else
       none
     else
      none
    else
     none
   else
    none
  else
   some (.inr (.inr ()))
noncomputable def law07_ChartDecomps (s0 : ByteArray) : Option (Bool) :=
  (Go.Tx.law07_awake).bind fun r0_0 =>
   if (!r0_0) = true then
    some false
   else
    if (decide (((s0.size : Nat) : Int) > (2000 : Int))) = true then
     some true
    else
     ((Go.Tx.chart_Decomps s0)).bind fun (r1_0, r1_1, r1_2) =>
      ((Go.Tx.ref07_Decomps s0)).bind fun (r2_0, r2_1) =>
       ((Go.Tx.law07_fits r1_0 r1_1 r2_0 ((r1_2.length : Nat) : Int) ((r2_1.length : Nat) : Int))).bind fun r3_0 =>
        if (!r3_0) = true then
         some false
        else
         ((Go.Sx.runLoop law07_ChartDecomps_b10 (((r1_2.length : Nat) : Int), ((0 : Int), (r1_2, r2_1))))).bind fun r4_0 =>
          match r4_0 with
          | .inl r5_0 =>
           some r5_0
          | .inr _ =>
           some true
/-! sabretache/sabretachelaw07.ChartRanges -/
noncomputable def law07_ChartRanges_b12 : Int × Int × List (Int × Int × ByteArray × ByteArray × ByteArray × Bool) × List (Int × Int × ByteArray × ByteArray × ByteArray × Bool) × List (ByteArray × Int × Int) × List (ByteArray × Int × Int) → Option ((Int × Int × List (Int × Int × ByteArray × ByteArray × ByteArray × Bool) × List (Int × Int × ByteArray × ByteArray × ByteArray × Bool) × List (ByteArray × Int × Int) × List (ByteArray × Int × Int)) ⊕ (Bool ⊕ (List (ByteArray × Int × Int) × List (ByteArray × Int × Int)))) := fun
  | (t63, t64, l1220, l1280, l1330, l1390) =>
  if (decide (t64 < t63)) = true then
   if ((decide ((0 : Int) ≤ t64)) && (decide (t64 < ((l1220.length : Nat) : Int)))) = true then
    if (decide (t64.toNat < l1220.length)) = true then
     if ((decide ((0 : Int) ≤ t64)) && (decide (t64 < ((l1280.length : Nat) : Int)))) = true then
      if (decide (t64.toNat < l1280.length)) = true then
       if (!((decide ((l1220.getD t64.toNat ((0 : Int), ((0 : Int), (ByteArray.empty, (ByteArray.empty, (ByteArray.empty, false)))))).1 = (l1280.getD t64.toNat ((0 : Int), ((0 : Int), (ByteArray.empty, (ByteArray.empty, (ByteArray.empty, false)))))).1)) && ((decide ((l1220.getD t64.toNat ((0 : Int), ((0 : Int), (ByteArray.empty, (ByteArray.empty, (ByteArray.empty, false)))))).2.1 = (l1280.getD t64.toNat ((0 : Int), ((0 : Int), (ByteArray.empty, (ByteArray.empty, (ByteArray.empty, false)))))).2.1)) && ((List.beq (ByteArray.toList (l1220.getD t64.toNat ((0 : Int), ((0 : Int), (ByteArray.empty, (ByteArray.empty, (ByteArray.empty, false)))))).2.2.1) (ByteArray.toList (l1280.getD t64.toNat ((0 : Int), ((0 : Int), (ByteArray.empty, (ByteArray.empty, (ByteArray.empty, false)))))).2.2.1)) && ((List.beq (ByteArray.toList (l1220.getD t64.toNat ((0 : Int), ((0 : Int), (ByteArray.empty, (ByteArray.empty, (ByteArray.empty, false)))))).2.2.2.1) (ByteArray.toList (l1280.getD t64.toNat ((0 : Int), ((0 : Int), (ByteArray.empty, (ByteArray.empty, (ByteArray.empty, false)))))).2.2.2.1)) && ((List.beq (ByteArray.toList (l1220.getD t64.toNat ((0 : Int), ((0 : Int), (ByteArray.empty, (ByteArray.empty, (ByteArray.empty, false)))))).2.2.2.2.1) (ByteArray.toList (l1280.getD t64.toNat ((0 : Int), ((0 : Int), (ByteArray.empty, (ByteArray.empty, (ByteArray.empty, false)))))).2.2.2.2.1)) && ((decide ((l1220.getD t64.toNat ((0 : Int), ((0 : Int), (ByteArray.empty, (ByteArray.empty, (ByteArray.empty, false)))))).2.2.2.2.2 = (l1280.getD t64.toNat ((0 : Int), ((0 : Int), (ByteArray.empty, (ByteArray.empty, (ByteArray.empty, false)))))).2.2.2.2.2)) && true))))))) = true then
        some (.inr (.inl false))
       else
        some (.inl (t63, ((Go.IntKind.wrap .i64 (t64 + (1 : Int))), (l1220, (l1280, (l1330, l1390))))))
      else
       none
     else
      none
    else
     none
   else
    none
  else
   some (.inr (.inr (l1330, l1390)))
noncomputable def law07_ChartRanges_b18 : Int × Int × List (ByteArray × Int × Int) × List (ByteArray × Int × Int) → Option ((Int × Int × List (ByteArray × Int × Int) × List (ByteArray × Int × Int)) ⊕ (Bool ⊕ Unit)) := fun
  | (t78, t79, l1330, l1390) =>
  if (decide (t79 < t78)) = true then
   if ((decide ((0 : Int) ≤ t79)) && (decide (t79 < ((l1330.length : Nat) : Int)))) = true then
    if (decide (t79.toNat < l1330.length)) = true then
     if ((decide ((0 : Int) ≤ t79)) && (decide (t79 < ((l1390.length : Nat) : Int)))) = true then
      if (decide (t79.toNat < l1390.length)) = true then
       if (!((List.beq (ByteArray.toList (l1330.getD t79.toNat (ByteArray.empty, ((0 : Int), (0 : Int)))).1) (ByteArray.toList (l1390.getD t79.toNat (ByteArray.empty, ((0 : Int), (0 : Int)))).1)) && ((decide ((l1330.getD t79.toNat (ByteArray.empty, ((0 : Int), (0 : Int)))).2.1 = (l1390.getD t79.toNat (ByteArray.empty, ((0 : Int), (0 : Int)))).2.1)) && ((decide ((l1330.getD t79.toNat (ByteArray.empty, ((0 : Int), (0 : Int)))).2.2 = (l1390.getD t79.toNat (ByteArray.empty, ((0 : Int), (0 : Int)))).2.2)) && true)))) = true then
        some (.inr (.inl false))
       else
        some (.inl (t78, ((Go.IntKind.wrap .i64 (t79 + (1 : Int))), (l1330, l1390))))
      else
       none
     else
      none
    else
     none
   else
    none
  else
   some (.inr (.inr ()))
noncomputable def law07_ChartRanges (s0 : ByteArray) : Option (Bool) :=
  (Go.Tx.law07_awake).bind fun r0_0 =>
   if (!r0_0) = true then
    some false
   else
    if (decide (((s0.size : Nat) : Int) > (2000 : Int))) = true then
     some true
    else
     ((Go.Tx.chart_Ranges s0)).bind fun (r1_0, r1_1, r1_2) =>
      ((Go.Tx.ref07_Ranges s0)).bind fun (r2_0, r2_1) =>
       ((Go.Tx.chart_Sets s0)).bind fun (r3_0, r3_1, r3_2) =>
        ((Go.Tx.ref07_Sets s0)).bind fun (r4_0, r4_1) =>
         ((Go.Tx.law07_fits r1_0 r1_1 r2_0 ((r1_2.length : Nat) : Int) ((r2_1.length : Nat) : Int))).bind fun r5_0 =>
          if (!r5_0) = true then
           some false
          else
           ((Go.Tx.law07_fits r3_0 r3_1 r4_0 ((r3_2.length : Nat) : Int) ((r4_1.length : Nat) : Int))).bind fun r6_0 =>
            if (!r6_0) = true then
             some false
            else
             ((Go.Sx.runLoop law07_ChartRanges_b12 (((r1_2.length : Nat) : Int), ((0 : Int), (r1_2, (r2_1, (r3_2, r4_1))))))).bind fun r7_0 =>
              match r7_0 with
              | .inl r8_0 =>
               some r8_0
              | .inr (r9_0, r9_1) =>
               ((Go.Sx.runLoop law07_ChartRanges_b18 (((r9_0.length : Nat) : Int), ((0 : Int), (r9_0, r9_1))))).bind fun r10_0 =>
                match r10_0 with
                | .inl r11_0 =>
                 some r11_0
                | .inr _ =>
                 some true
end Go.Tx

/- Printed by the driver (wip/drv): the contracts of Go functions, checked. -/
set_option linter.all false
set_option linter.unusedVariables false
set_option maxRecDepth 100000
set_option maxHeartbeats 0
namespace Go.Tx
open Go Go.Sx
/-! sabretache/sabretacheref07.Split -/
noncomputable def ref07_Split_l3 : Loop1 := ⟨⟨[.b .str, .b (.int .u8), .b (.int .i64), .r [.b .str]], 40, [(0, .v), (1, .v), (5, (.own 108)), (6, .v)], [⟨108, 0, .row true 9 [.b .str]⟩]⟩, [(.exit 0, ⟨[.r [.b .str]], 40, [(5, (.own 108))], [⟨108, 0, .row true 9 [.b .str]⟩]⟩)], ref07_Split_b3⟩
noncomputable def ref07_Split_i : Pat := ⟨[.b .str, .b (.int .u8)], 40, [(0, .v), (1, .v)], []⟩
noncomputable def ref07_Split_o : Exits := [(.ret, ⟨[.r [.b .str]], 40, [(4, (.own 108))], [⟨108, 0, .row true 9 [.b .str]⟩]⟩)]
noncomputable def ref07_Split_s : TSum := TSum.of (baseC (fun _ => none) (fun _ => [])) (Go.Proofs.Tryz.f165.results.toList) 0 ref07_Split_i ref07_Split_o (fun v => ref07_Split v.1 v.2)
noncomputable def ref07_Split_z : Code := Option.getD Go.Proofs.Tryz.f165.body .skip
noncomputable def ref07_Split_x (gl : Glob) : TCtx := { baseC gl (lookS []) with inl := lookI [], fuel := 0, loops := lookL [(3, ref07_Split_l3)], cuts := lookL [] }
theorem ref07_Split_v {gl : Glob} (hg : Gs gl) : ValidS Go.Proofs.Tryz.prog gl 165 ref07_Split_s := by
  refine validS_of (c := ref07_Split_x gl) ?_ hm_ Go.Proofs.Tryz.func165 (body := ref07_Split_z) ?_ ?_ ?_ ?_ ?_ ?_ ?_ ?_ ?_
  · exact tok_of tyB_ok cmpB_ok .nil .nil
  · kernel_rfl
  · rfl
  · exact annOK_by (l := [∀ v, ref07_Split_l3.body v = (roundT (ref07_Split_x gl) ref07_Split_l3.pat ref07_Split_l3.exits (subAt [1, 1, 0, 1, 0, 0] ref07_Split_z) v).run]) (by kernel_rfl) (⟨fun (a0, a1, a2, a3) => Eq.symm (by kernel_rfl), trivial⟩)
  · exact fun (a0, a1) => Eq.symm (by kernel_rfl)
  · kernel_rfl
  · kernel_rfl
  · exact exitX_of (.cons (fun v => by kernel_rfl) .nil)
  · rfl
  · rfl
/-! sabretache/sabretacheref07.Lines -/
noncomputable def ref07_Lines_l6 : Loop1 := ⟨⟨[.b (.int .i64), .r [.b .str], .r [.s 9 [.str]]], 26, [(3, (.own 5000)), (4, (.own 1100)), (5, .v)], [⟨1100, 0, .row true 9 [.b .str]⟩, ⟨5000, 0, .row true 113 [.s 9 [.str]]⟩]⟩, [(.exit 0, ⟨[.r [.s 9 [.str]]], 26, [(3, (.own 5000))], [⟨5000, 0, .row true 113 [.s 9 [.str]]⟩]⟩)], ref07_Lines_b6⟩
noncomputable def ref07_Lines_i : Pat := ⟨[.b .str], 26, [(0, .v)], []⟩
noncomputable def ref07_Lines_o : Exits := [(.ret, ⟨[.r [.s 9 [.str]]], 26, [(2, (.own 5000))], [⟨5000, 0, .row true 113 [.s 9 [.str]]⟩]⟩)]
noncomputable def ref07_Lines_s : TSum := TSum.of (baseC (fun _ => none) (fun _ => [])) (Go.Proofs.Tryz.f102.results.toList) 0 ref07_Lines_i ref07_Lines_o (fun v => ref07_Lines v)
noncomputable def ref07_Lines_z : Code := Option.getD Go.Proofs.Tryz.f102.body .skip
noncomputable def ref07_Lines_x (gl : Glob) : TCtx := { baseC gl (lookS [(165, [ref07_Split_s])]) with inl := lookI [], fuel := 0, loops := lookL [(6, ref07_Lines_l6)], cuts := lookL [] }
theorem ref07_Lines_v {gl : Glob} (hg : Gs gl) : ValidS Go.Proofs.Tryz.prog gl 102 ref07_Lines_s := by
  refine validS_of (c := ref07_Lines_x gl) ?_ hm_ Go.Proofs.Tryz.func102 (body := ref07_Lines_z) ?_ ?_ ?_ ?_ ?_ ?_ ?_ ?_ ?_
  · exact tok_of tyB_ok cmpB_ok (.cons (.cons (ref07_Split_v hg) .nil) (hb_ 165 Go.Proofs.Tryz.func165 (by kernel_rfl) (by kernel_rfl)) .nil) .nil
  · kernel_rfl
  · rfl
  · exact annOK_by (l := [∀ v, ref07_Lines_l6.body v = (roundT (ref07_Lines_x gl) ref07_Lines_l6.pat ref07_Lines_l6.exits (subAt [1, 1, 1, 1, 0, 1, 0, 0] ref07_Lines_z) v).run]) (by kernel_rfl) (⟨fun (a0, a1, a2) => Eq.symm (by kernel_rfl), trivial⟩)
  · exact fun v => Eq.symm (by kernel_rfl)
  · kernel_rfl
  · kernel_rfl
  · exact exitX_of (.cons (fun v => by kernel_rfl) .nil)
  · rfl
  · rfl
/-! sabretache/sabretacheref07.digit -/
noncomputable def ref07_digit_i : Pat := ⟨[.b (.int .u8)], 22, [(0, .v)], []⟩
noncomputable def ref07_digit_o : Exits := [(.ret, ⟨[.b (.int .i64)], 22, [(2, .v)], []⟩)]
noncomputable def ref07_digit_s : TSum := TSum.of (baseC (fun _ => none) (fun _ => [])) (Go.Proofs.Tryz.f168.results.toList) 0 ref07_digit_i ref07_digit_o (fun v => ref07_digit v)
noncomputable def ref07_digit_z : Code := Option.getD Go.Proofs.Tryz.f168.body .skip
noncomputable def ref07_digit_x (gl : Glob) : TCtx := { baseC gl (lookS []) with inl := lookI [], fuel := 0, loops := lookL [], cuts := lookL [] }
theorem ref07_digit_v {gl : Glob} (hg : Gs gl) : ValidS Go.Proofs.Tryz.prog gl 168 ref07_digit_s := by
  refine validS_of (c := ref07_digit_x gl) ?_ hm_ Go.Proofs.Tryz.func168 (body := ref07_digit_z) ?_ ?_ ?_ ?_ ?_ ?_ ?_ ?_ ?_
  · exact tok_of tyB_ok cmpB_ok .nil .nil
  · kernel_rfl
  · rfl
  · exact annOK_by (l := []) (by kernel_rfl) (trivial)
  · exact fun v => Eq.symm (by kernel_rfl)
  · kernel_rfl
  · kernel_rfl
  · exact exitX_of (.cons (fun v => by kernel_rfl) .nil)
  · rfl
  · rfl
/-! sabretache/sabretacheref07.Point -/
noncomputable def ref07_Point_l5 : Loop1 := ⟨⟨[.b .str, .b (.int .i64), .b (.int .i64)], 43, [(0, .v), (3, .v), (4, .v)], []⟩, [(.exit 0, ⟨[.b (.int .i64)], 43, [(3, .v)], []⟩), (.ret, ⟨[.b (.int .i64)], 43, [(2, .v)], []⟩)], ref07_Point_b5⟩
noncomputable def ref07_Point_i : Pat := ⟨[.b .str], 43, [(0, .v)], []⟩
noncomputable def ref07_Point_o : Exits := [(.ret, ⟨[.b (.int .i64)], 43, [(2, .v)], []⟩)]
noncomputable def ref07_Point_s : TSum := TSum.of (baseC (fun _ => none) (fun _ => [])) (Go.Proofs.Tryz.f110.results.toList) 0 ref07_Point_i ref07_Point_o (fun v => ref07_Point v)
noncomputable def ref07_Point_z : Code := Option.getD Go.Proofs.Tryz.f110.body .skip
noncomputable def ref07_Point_x (gl : Glob) : TCtx := { baseC gl (lookS [(168, [ref07_digit_s])]) with inl := lookI [], fuel := 0, loops := lookL [(5, ref07_Point_l5)], cuts := lookL [] }
theorem ref07_Point_v {gl : Glob} (hg : Gs gl) : ValidS Go.Proofs.Tryz.prog gl 110 ref07_Point_s := by
  refine validS_of (c := ref07_Point_x gl) ?_ hm_ Go.Proofs.Tryz.func110 (body := ref07_Point_z) ?_ ?_ ?_ ?_ ?_ ?_ ?_ ?_ ?_
  · exact tok_of tyB_ok cmpB_ok (.cons (.cons (ref07_digit_v hg) .nil) (hb_ 168 Go.Proofs.Tryz.func168 (by kernel_rfl) (by kernel_rfl)) .nil) .nil
  · kernel_rfl
  · rfl
  · exact annOK_by (l := [∀ v, ref07_Point_l5.body v = (roundT (ref07_Point_x gl) ref07_Point_l5.pat ref07_Point_l5.exits (subAt [1, 1, 1, 0, 1, 0, 0] ref07_Point_z) v).run]) (by kernel_rfl) (⟨fun (a0, a1, a2) => Eq.symm (by kernel_rfl), trivial⟩)
  · exact fun v => Eq.symm (by kernel_rfl)
  · kernel_rfl
  · kernel_rfl
  · exact exitX_of (.cons (fun v => by kernel_rfl) .nil)
  · rfl
  · rfl
/-! sabretache/sabretacheref07.span -/
noncomputable def ref07_span_i : Pat := ⟨[.b .str, .b .str], 29, [(0, .v), (1, .v)], []⟩
noncomputable def ref07_span_o : Exits := [(.ret, ⟨[.b .bool, .b (.int .u32), .b (.int .u32)], 29, [(4, (.ptr 104 0)), (5, .v)], [⟨104, 0, .cells [.v, .v]⟩]⟩)]
noncomputable def ref07_span_s : TSum := TSum.of (baseC (fun _ => none) (fun _ => [])) (Go.Proofs.Tryz.f103.results.toList) 0 ref07_span_i ref07_span_o (fun v => ref07_span v.1 v.2)
noncomputable def ref07_span_z : Code := Option.getD Go.Proofs.Tryz.f103.body .skip
noncomputable def ref07_span_x (gl : Glob) : TCtx := { baseC gl (lookS [(110, [ref07_Point_s])]) with inl := lookI [], fuel := 0, loops := lookL [], cuts := lookL [] }
theorem ref07_span_v {gl : Glob} (hg : Gs gl) : ValidS Go.Proofs.Tryz.prog gl 103 ref07_span_s := by
  refine validS_of (c := ref07_span_x gl) ?_ hm_ Go.Proofs.Tryz.func103 (body := ref07_span_z) ?_ ?_ ?_ ?_ ?_ ?_ ?_ ?_ ?_
  · exact tok_of tyB_ok cmpB_ok (.cons (.cons (ref07_Point_v hg) .nil) (hb_ 110 Go.Proofs.Tryz.func110 (by kernel_rfl) (by kernel_rfl)) .nil) .nil
  · kernel_rfl
  · rfl
  · exact annOK_by (l := []) (by kernel_rfl) (trivial)
  · exact fun (a0, a1) => Eq.symm (by kernel_rfl)
  · kernel_rfl
  · kernel_rfl
  · exact exitX_of (.cons (fun v => by kernel_rfl) .nil)
  · rfl
  · rfl
/-! sabretache/sabretacheref07.all -/
noncomputable def ref07_all_l2 : Loop1 := ⟨⟨[.b .str, .b (.int .u8), .b (.int .u8), .b (.int .i64), .b (.int .i64), .b (.int .i64)], 40, [(0, .v), (1, .v), (2, .v), (3, .v), (4, .v), (11, .v)], []⟩, [(.ret, ⟨[.b .bool], 40, [(10, .v)], []⟩), (.exit 0, ⟨[.b .str, .b (.int .i64), .b (.int .i64)], 40, [(0, .v), (3, .v), (4, .v)], []⟩)], ref07_all_b2⟩
noncomputable def ref07_all_i : Pat := ⟨[.b .str, .b (.int .u8), .b (.int .u8), .b (.int .i64), .b (.int .i64)], 40, [(0, .v), (1, .v), (2, .v), (3, .v), (4, .v)], []⟩
noncomputable def ref07_all_o : Exits := [(.ret, ⟨[.b .bool], 40, [(10, .v)], []⟩)]
noncomputable def ref07_all_s : TSum := TSum.of (baseC (fun _ => none) (fun _ => [])) (Go.Proofs.Tryz.f115.results.toList) 0 ref07_all_i ref07_all_o (fun v => ref07_all v.1 v.2.1 v.2.2.1 v.2.2.2.1 v.2.2.2.2)
noncomputable def ref07_all_z : Code := Option.getD Go.Proofs.Tryz.f115.body .skip
noncomputable def ref07_all_x (gl : Glob) : TCtx := { baseC gl (lookS []) with inl := lookI [], fuel := 0, loops := lookL [(2, ref07_all_l2)], cuts := lookL [] }
theorem ref07_all_v {gl : Glob} (hg : Gs gl) : ValidS Go.Proofs.Tryz.prog gl 115 ref07_all_s := by
  refine validS_of (c := ref07_all_x gl) ?_ hm_ Go.Proofs.Tryz.func115 (body := ref07_all_z) ?_ ?_ ?_ ?_ ?_ ?_ ?_ ?_ ?_
  · exact tok_of tyB_ok cmpB_ok .nil .nil
  · kernel_rfl
  · rfl
  · exact annOK_by (l := [∀ v, ref07_all_l2.body v = (roundT (ref07_all_x gl) ref07_all_l2.pat ref07_all_l2.exits (subAt [1, 0, 1, 0, 0] ref07_all_z) v).run]) (by kernel_rfl) (⟨fun (a0, a1, a2, a3, a4, a5) => Eq.symm (by kernel_rfl), trivial⟩)
  · exact fun (a0, a1, a2, a3, a4) => Eq.symm (by kernel_rfl)
  · kernel_rfl
  · kernel_rfl
  · exact exitX_of (.cons (fun v => by kernel_rfl) .nil)
  · rfl
  · rfl
/-! sabretache/sabretacheref07.number -/
noncomputable def ref07_number_l5 : Loop1 := ⟨⟨[.b .str, .b (.int .i64), .b (.int .i64)], 30, [(0, .v), (3, .v), (4, .v)], []⟩, [(.exit 0, ⟨[.b (.int .i64)], 30, [(3, .v)], []⟩)], ref07_number_b5⟩
noncomputable def ref07_number_i : Pat := ⟨[.b .str], 30, [(0, .v)], []⟩
noncomputable def ref07_number_o : Exits := [(.ret, ⟨[.b (.int .i64)], 30, [(2, .v)], []⟩)]
noncomputable def ref07_number_s : TSum := TSum.of (baseC (fun _ => none) (fun _ => [])) (Go.Proofs.Tryz.f104.results.toList) 0 ref07_number_i ref07_number_o (fun v => ref07_number v)
noncomputable def ref07_number_z : Code := Option.getD Go.Proofs.Tryz.f104.body .skip
noncomputable def ref07_number_x (gl : Glob) : TCtx := { baseC gl (lookS [(115, [ref07_all_s])]) with inl := lookI [], fuel := 0, loops := lookL [(5, ref07_number_l5)], cuts := lookL [] }
theorem ref07_number_v {gl : Glob} (hg : Gs gl) : ValidS Go.Proofs.Tryz.prog gl 104 ref07_number_s := by
  refine validS_of (c := ref07_number_x gl) ?_ hm_ Go.Proofs.Tryz.func104 (body := ref07_number_z) ?_ ?_ ?_ ?_ ?_ ?_ ?_ ?_ ?_
  · exact tok_of tyB_ok cmpB_ok (.cons (.cons (ref07_all_v hg) .nil) (hb_ 115 Go.Proofs.Tryz.func115 (by kernel_rfl) (by kernel_rfl)) .nil) .nil
  · kernel_rfl
  · rfl
  · exact annOK_by (l := [∀ v, ref07_number_l5.body v = (roundT (ref07_number_x gl) ref07_number_l5.pat ref07_number_l5.exits (subAt [1, 1, 1, 0, 1, 0, 0] ref07_number_z) v).run]) (by kernel_rfl) (⟨fun (a0, a1, a2) => Eq.symm (by kernel_rfl), trivial⟩)
  · exact fun v => Eq.symm (by kernel_rfl)
  · kernel_rfl
  · kernel_rfl
  · exact exitX_of (.cons (fun v => by kernel_rfl) .nil)
  · rfl
  · rfl
/-! sabretache/sabretacheref07.Classes -/
noncomputable def ref07_Classes_l4 : Loop1 := ⟨⟨[.b (.int .i64), .r [.s 9 [.str]], .r [.b (.int .u32), .b (.int .u32), .b (.int .u32)]], 81, [(4, (.own 5000)), (5, (.own 1110)), (6, .v)], [⟨1110, 0, .row true 113 [.s 9 [.str]]⟩, ⟨5000, 0, .row true 85 [.b (.int .u32), .b (.int .u32), .b (.int .u32)]⟩]⟩, [(.ret, ⟨[.b (.int .i64)], 81, [(2, (.lit (.slice none 0 0))), (3, .v)], []⟩), (.exit 0, ⟨[.r [.b (.int .u32), .b (.int .u32), .b (.int .u32)]], 81, [(4, (.own 5000))], [⟨5000, 0, .row true 85 [.b (.int .u32), .b (.int .u32), .b (.int .u32)]⟩]⟩)], ref07_Classes_b4⟩
noncomputable def ref07_Classes_i : Pat := ⟨[.b .str], 81, [(0, .v)], []⟩
noncomputable def ref07_Classes_o : Exits := [(.ret, ⟨[.b (.int .i64), .r [.b (.int .u32), .b (.int .u32), .b (.int .u32)]], 81, [(2, (.own 5000)), (3, .v)], [⟨5000, 0, .row true 85 [.b (.int .u32), .b (.int .u32), .b (.int .u32)]⟩]⟩)]
noncomputable def ref07_Classes_s : TSum := TSum.of (baseC (fun _ => none) (fun _ => [])) (Go.Proofs.Tryz.f45.results.toList) 0 ref07_Classes_i ref07_Classes_o (fun v => ref07_Classes v)
noncomputable def ref07_Classes_z : Code := Option.getD Go.Proofs.Tryz.f45.body .skip
noncomputable def ref07_Classes_x (gl : Glob) : TCtx := { baseC gl (lookS [(102, [ref07_Lines_s]), (103, [ref07_span_s]), (104, [ref07_number_s])]) with inl := lookI [], fuel := 0, loops := lookL [(4, ref07_Classes_l4)], cuts := lookL [] }
theorem ref07_Classes_v {gl : Glob} (hg : Gs gl) : ValidS Go.Proofs.Tryz.prog gl 45 ref07_Classes_s := by
  refine validS_of (c := ref07_Classes_x gl) ?_ hm_ Go.Proofs.Tryz.func45 (body := ref07_Classes_z) ?_ ?_ ?_ ?_ ?_ ?_ ?_ ?_ ?_
  · exact tok_of tyB_ok cmpB_ok (.cons (.cons (ref07_Lines_v hg) .nil) (hb_ 102 Go.Proofs.Tryz.func102 (by kernel_rfl) (by kernel_rfl)) (.cons (.cons (ref07_span_v hg) .nil) (hb_ 103 Go.Proofs.Tryz.func103 (by kernel_rfl) (by kernel_rfl)) (.cons (.cons (ref07_number_v hg) .nil) (hb_ 104 Go.Proofs.Tryz.func104 (by kernel_rfl) (by kernel_rfl)) .nil))) .nil
  · kernel_rfl
  · rfl
  · exact annOK_by (l := [∀ v, ref07_Classes_l4.body v = (roundT (ref07_Classes_x gl) ref07_Classes_l4.pat ref07_Classes_l4.exits (subAt [1, 1, 1, 0, 1, 0, 0] ref07_Classes_z) v).run]) (by kernel_rfl) (⟨fun (a0, a1, a2) => Eq.symm (by kernel_rfl), trivial⟩)
  · exact fun v => Eq.symm (by kernel_rfl)
  · kernel_rfl
  · kernel_rfl
  · exact exitX_of (.cons (fun v => by kernel_rfl) .nil)
  · rfl
  · rfl
/-! sabretache/sabretacheref07.Runs -/
noncomputable def ref07_Runs_l4 : Loop1 := ⟨⟨[.b (.int .i64), .r [.s 9 [.str]], .r [.b (.int .u32), .b (.int .u32), .b (.int .u32)]], 81, [(4, (.own 5000)), (5, (.own 1110)), (6, .v)], [⟨1110, 0, .row true 113 [.s 9 [.str]]⟩, ⟨5000, 0, .row true 87 [.b (.int .u32), .b (.int .u32), .b (.int .u32)]⟩]⟩, [(.ret, ⟨[.b (.int .i64)], 81, [(2, (.lit (.slice none 0 0))), (3, .v)], []⟩), (.exit 0, ⟨[.r [.b (.int .u32), .b (.int .u32), .b (.int .u32)]], 81, [(4, (.own 5000))], [⟨5000, 0, .row true 87 [.b (.int .u32), .b (.int .u32), .b (.int .u32)]⟩]⟩)], ref07_Runs_b4⟩
noncomputable def ref07_Runs_i : Pat := ⟨[.b .str], 81, [(0, .v)], []⟩
noncomputable def ref07_Runs_o : Exits := [(.ret, ⟨[.b (.int .i64), .r [.b (.int .u32), .b (.int .u32), .b (.int .u32)]], 81, [(2, (.own 5000)), (3, .v)], [⟨5000, 0, .row true 87 [.b (.int .u32), .b (.int .u32), .b (.int .u32)]⟩]⟩)]
noncomputable def ref07_Runs_s : TSum := TSum.of (baseC (fun _ => none) (fun _ => [])) (Go.Proofs.Tryz.f47.results.toList) 0 ref07_Runs_i ref07_Runs_o (fun v => ref07_Runs v)
noncomputable def ref07_Runs_z : Code := Option.getD Go.Proofs.Tryz.f47.body .skip
noncomputable def ref07_Runs_x (gl : Glob) : TCtx := { baseC gl (lookS [(102, [ref07_Lines_s]), (110, [ref07_Point_s]), (103, [ref07_span_s])]) with inl := lookI [], fuel := 0, loops := lookL [(4, ref07_Runs_l4)], cuts := lookL [] }
theorem ref07_Runs_v {gl : Glob} (hg : Gs gl) : ValidS Go.Proofs.Tryz.prog gl 47 ref07_Runs_s := by
  refine validS_of (c := ref07_Runs_x gl) ?_ hm_ Go.Proofs.Tryz.func47 (body := ref07_Runs_z) ?_ ?_ ?_ ?_ ?_ ?_ ?_ ?_ ?_
  · exact tok_of tyB_ok cmpB_ok (.cons (.cons (ref07_Lines_v hg) .nil) (hb_ 102 Go.Proofs.Tryz.func102 (by kernel_rfl) (by kernel_rfl)) (.cons (.cons (ref07_Point_v hg) .nil) (hb_ 110 Go.Proofs.Tryz.func110 (by kernel_rfl) (by kernel_rfl)) (.cons (.cons (ref07_span_v hg) .nil) (hb_ 103 Go.Proofs.Tryz.func103 (by kernel_rfl) (by kernel_rfl)) .nil))) .nil
  · kernel_rfl
  · rfl
  · exact annOK_by (l := [∀ v, ref07_Runs_l4.body v = (roundT (ref07_Runs_x gl) ref07_Runs_l4.pat ref07_Runs_l4.exits (subAt [1, 1, 1, 0, 1, 0, 0] ref07_Runs_z) v).run]) (by kernel_rfl) (⟨fun (a0, a1, a2) => Eq.symm (by kernel_rfl), trivial⟩)
  · exact fun v => Eq.symm (by kernel_rfl)
  · kernel_rfl
  · kernel_rfl
  · exact exitX_of (.cons (fun v => by kernel_rfl) .nil)
  · rfl
  · rfl
end Go.Tx

/- Printed by the driver (wip/drv): the contracts of Go functions, checked. -/
set_option linter.all false
set_option linter.unusedVariables false
set_option maxRecDepth 100000
set_option maxHeartbeats 0
namespace Go.Tx
open Go Go.Sx
/-! sabretache/sabretacheref07.Ranges -/
noncomputable def ref07_Ranges_l4 : Loop1 := ⟨⟨[.b (.int .i64), .r [.s 9 [.str]], .r [.b (.int .u32), .b (.int .u32), .b .str, .b .str, .b .str, .b .bool]], 154, [(4, (.own 5000)), (5, (.own 1110)), (6, .v)], [⟨1110, 0, .row true 113 [.s 9 [.str]]⟩, ⟨5000, 0, .row true 98 [.b (.int .u32), .b (.int .u32), .b .str, .b .str, .b .str, .b .bool]⟩]⟩, [(.exit 0, ⟨[.r [.b (.int .u32), .b (.int .u32), .b .str, .b .str, .b .str, .b .bool]], 154, [(4, (.own 5000))], [⟨5000, 0, .row true 98 [.b (.int .u32), .b (.int .u32), .b .str, .b .str, .b .str, .b .bool]⟩]⟩), (.ret, ⟨[.b (.int .i64)], 154, [(2, (.lit (.slice none 0 0))), (3, .v)], []⟩)], ref07_Ranges_b4⟩
noncomputable def ref07_Ranges_k6 : Cut1 := ⟨⟨[.b (.int .i64), .r [.b (.int .u32), .b (.int .u32), .b .str, .b .str, .b .str, .b .bool], .r [.s 9 [.str]]], 154, [(4, (.own 5000)), (5, (.own 1110)), (6, .v)], [⟨5000, 0, .row true 98 [.b (.int .u32), .b (.int .u32), .b .str, .b .str, .b .str, .b .bool]⟩, ⟨1110, 0, .row true 113 [.s 9 [.str]]⟩]⟩, [(.ret, ⟨[.b (.int .i64)], 154, [(2, (.lit (.slice none 0 0))), (3, .v)], []⟩), (.normal, ⟨[.b (.int .i64), .r [.b (.int .u32), .b (.int .u32), .b .str, .b .str, .b .str, .b .bool], .r [.s 9 [.str]]], 154, [(4, (.own 5000)), (5, (.own 1110)), (6, .v)], [⟨5000, 0, .row true 98 [.b (.int .u32), .b (.int .u32), .b .str, .b .str, .b .str, .b .bool]⟩, ⟨1110, 0, .row true 113 [.s 9 [.str]]⟩]⟩)], ref07_Ranges_c6⟩
noncomputable def ref07_Ranges_k5 : Cut1 := ⟨⟨[.b (.int .i64), .r [.b (.int .u32), .b (.int .u32), .b .str, .b .str, .b .str, .b .bool], .r [.s 9 [.str]]], 154, [(4, (.own 5000)), (5, (.own 1110)), (6, .v)], [⟨5000, 0, .row true 98 [.b (.int .u32), .b (.int .u32), .b .str, .b .str, .b .str, .b .bool]⟩, ⟨1110, 0, .row true 113 [.s 9 [.str]]⟩]⟩, [(.normal, ⟨[.b (.int .i64), .r [.b (.int .u32), .b (.int .u32), .b .str, .b .str, .b .str, .b .bool], .r [.s 9 [.str]]], 154, [(4, (.own 5000)), (5, (.own 1110)), (6, .v)], [⟨5000, 0, .row true 98 [.b (.int .u32), .b (.int .u32), .b .str, .b .str, .b .str, .b .bool]⟩, ⟨1110, 0, .row true 113 [.s 9 [.str]]⟩]⟩)], ref07_Ranges_c5⟩
noncomputable def ref07_Ranges_k9 : Cut1 := ⟨⟨[.b (.int .i64), .r [.b (.int .u32), .b (.int .u32), .b .str, .b .str, .b .str, .b .bool], .r [.s 9 [.str]], .r [.b .str]], 154, [(4, (.own 5000)), (5, (.own 1110)), (6, .v), (7, (.own 1210))], [⟨5000, 0, .row true 98 [.b (.int .u32), .b (.int .u32), .b .str, .b .str, .b .str, .b .bool]⟩, ⟨1110, 0, .row true 113 [.s 9 [.str]]⟩, ⟨1210, 0, .row false 9 [.b .str]⟩]⟩, [(.ret, ⟨[.b (.int .i64)], 154, [(2, (.lit (.slice none 0 0))), (3, .v)], []⟩), (.normal, ⟨[.b (.int .i64), .r [.b (.int .u32), .b (.int .u32), .b .str, .b .str, .b .str, .b .bool], .r [.s 9 [.str]]], 154, [(4, (.own 5000)), (5, (.own 1110)), (6, .v)], [⟨5000, 0, .row true 98 [.b (.int .u32), .b (.int .u32), .b .str, .b .str, .b .str, .b .bool]⟩, ⟨1110, 0, .row true 113 [.s 9 [.str]]⟩]⟩)], ref07_Ranges_c9⟩
noncomputable def ref07_Ranges_k12 : Cut1 := ⟨⟨[.b (.int .i64), .r [.b (.int .u32), .b (.int .u32), .b .str, .b .str, .b .str, .b .bool], .r [.s 9 [.str]], .r [.b .str], .b (.int .u32), .b (.int .u32)], 154, [(4, (.own 5000)), (5, (.own 1110)), (6, .v), (7, (.own 1210)), (8, (.ptr 108 0))], [⟨5000, 0, .row true 98 [.b (.int .u32), .b (.int .u32), .b .str, .b .str, .b .str, .b .bool]⟩, ⟨1110, 0, .row true 113 [.s 9 [.str]]⟩, ⟨1210, 0, .row false 9 [.b .str]⟩, ⟨108, 0, .cells [.v, .v]⟩]⟩, [(.ret, ⟨[.b (.int .i64)], 154, [(2, (.lit (.slice none 0 0))), (3, .v)], []⟩), (.normal, ⟨[.b (.int .i64), .r [.b (.int .u32), .b (.int .u32), .b .str, .b .str, .b .str, .b .bool], .r [.s 9 [.str]]], 154, [(4, (.own 5000)), (5, (.own 1110)), (6, .v)], [⟨5000, 0, .row true 98 [.b (.int .u32), .b (.int .u32), .b .str, .b .str, .b .str, .b .bool]⟩, ⟨1110, 0, .row true 113 [.s 9 [.str]]⟩]⟩)], ref07_Ranges_c12⟩
noncomputable def ref07_Ranges_k14 : Cut1 := ⟨⟨[.b (.int .i64), .r [.b (.int .u32), .b (.int .u32), .b .str, .b .str, .b .str, .b .bool], .r [.s 9 [.str]], .r [.b .str], .b (.int .u32), .b (.int .u32)], 154, [(4, (.own 5000)), (5, (.own 1110)), (6, .v), (7, (.own 1210)), (8, (.ptr 108 0))], [⟨5000, 0, .row true 98 [.b (.int .u32), .b (.int .u32), .b .str, .b .str, .b .str, .b .bool]⟩, ⟨1110, 0, .row true 113 [.s 9 [.str]]⟩, ⟨1210, 0, .row false 9 [.b .str]⟩, ⟨108, 0, .cells [.v, .v]⟩]⟩, [(.normal, ⟨[.b (.int .i64), .r [.b (.int .u32), .b (.int .u32), .b .str, .b .str, .b .str, .b .bool], .r [.s 9 [.str]]], 154, [(4, (.own 5000)), (5, (.own 1110)), (6, .v)], [⟨5000, 0, .row true 98 [.b (.int .u32), .b (.int .u32), .b .str, .b .str, .b .str, .b .bool]⟩, ⟨1110, 0, .row true 113 [.s 9 [.str]]⟩]⟩)], ref07_Ranges_c14⟩
noncomputable def ref07_Ranges_i : Pat := ⟨[.b .str], 154, [(0, .v)], []⟩
noncomputable def ref07_Ranges_o : Exits := [(.ret, ⟨[.b (.int .i64), .r [.b (.int .u32), .b (.int .u32), .b .str, .b .str, .b .str, .b .bool]], 154, [(2, (.own 5000)), (3, .v)], [⟨5000, 0, .row true 98 [.b (.int .u32), .b (.int .u32), .b .str, .b .str, .b .str, .b .bool]⟩]⟩)]
noncomputable def ref07_Ranges_s : TSum := TSum.of (baseC (fun _ => none) (fun _ => [])) (Go.Proofs.Tryz.f50.results.toList) 0 ref07_Ranges_i ref07_Ranges_o (fun v => ref07_Ranges v)
noncomputable def ref07_Ranges_z : Code := Option.getD Go.Proofs.Tryz.f50.body .skip
noncomputable def ref07_Ranges_x (gl : Glob) : TCtx := { baseC gl (lookS [(102, [ref07_Lines_s]), (103, [ref07_span_s]), (115, [ref07_all_s])]) with inl := lookI [], fuel := 0, loops := lookL [(4, ref07_Ranges_l4)], cuts := lookL [(6, ref07_Ranges_k6), (5, ref07_Ranges_k5), (9, ref07_Ranges_k9), (12, ref07_Ranges_k12), (14, ref07_Ranges_k14)] }
theorem ref07_Ranges_v {gl : Glob} (hg : Gs gl) : ValidS Go.Proofs.Tryz.prog gl 50 ref07_Ranges_s := by
  refine validS_of (c := ref07_Ranges_x gl) ?_ hm_ Go.Proofs.Tryz.func50 (body := ref07_Ranges_z) ?_ ?_ ?_ ?_ ?_ ?_ ?_ ?_ ?_
  · exact tok_of tyB_ok cmpB_ok (.cons (.cons (ref07_Lines_v hg) .nil) (hb_ 102 Go.Proofs.Tryz.func102 (by kernel_rfl) (by kernel_rfl)) (.cons (.cons (ref07_span_v hg) .nil) (hb_ 103 Go.Proofs.Tryz.func103 (by kernel_rfl) (by kernel_rfl)) (.cons (.cons (ref07_all_v hg) .nil) (hb_ 115 Go.Proofs.Tryz.func115 (by kernel_rfl) (by kernel_rfl)) .nil))) .nil
  · kernel_rfl
  · rfl
  · exact annOK_by (l := [∀ v, ref07_Ranges_k14.fn v = (pieceT (ref07_Ranges_x gl) ref07_Ranges_k14.pat ref07_Ranges_k14.exits (subAt [1, 1, 1, 0, 1, 0, 0, 1, 0, 0, 1, 1, 1, 1, 1] ref07_Ranges_z) v).run, ∀ v, ref07_Ranges_k12.fn v = (pieceT (ref07_Ranges_x gl) ref07_Ranges_k12.pat ref07_Ranges_k12.exits (subAt [1, 1, 1, 0, 1, 0, 0, 1, 0, 0, 1, 1, 1, 1] ref07_Ranges_z) v).run, ∀ v, ref07_Ranges_k9.fn v = (pieceT (ref07_Ranges_x gl) ref07_Ranges_k9.pat ref07_Ranges_k9.exits (subAt [1, 1, 1, 0, 1, 0, 0, 1, 0, 0, 1, 1] ref07_Ranges_z) v).run, ∀ v, ref07_Ranges_k5.fn v = (pieceT (ref07_Ranges_x gl) ref07_Ranges_k5.pat ref07_Ranges_k5.exits (subAt [1, 1, 1, 0, 1, 0, 0, 1, 1] ref07_Ranges_z) v).run, ∀ v, ref07_Ranges_k6.fn v = (pieceT (ref07_Ranges_x gl) ref07_Ranges_k6.pat ref07_Ranges_k6.exits (subAt [1, 1, 1, 0, 1, 0, 0, 1] ref07_Ranges_z) v).run, ∀ v, ref07_Ranges_l4.body v = (roundT (ref07_Ranges_x gl) ref07_Ranges_l4.pat ref07_Ranges_l4.exits (subAt [1, 1, 1, 0, 1, 0, 0] ref07_Ranges_z) v).run]) (by kernel_rfl) (⟨fun (a0, a1, a2, a3, a4, a5) => Eq.symm (by kernel_rfl), fun (a0, a1, a2, a3, a4, a5) => Eq.symm (by kernel_rfl), fun (a0, a1, a2, a3) => Eq.symm (by kernel_rfl), fun (a0, a1, a2) => Eq.symm (by kernel_rfl), fun (a0, a1, a2) => Eq.symm (by kernel_rfl), fun (a0, a1, a2) => Eq.symm (by kernel_rfl), trivial⟩)
  · exact fun v => Eq.symm (by kernel_rfl)
  · kernel_rfl
  · kernel_rfl
  · exact exitX_of (.cons (fun v => by kernel_rfl) .nil)
  · rfl
  · rfl
end Go.Tx

/- Printed by the driver (wip/drv): the contracts of Go functions, checked. -/
set_option linter.all false
set_option linter.unusedVariables false
set_option maxRecDepth 100000
set_option maxHeartbeats 0
namespace Go.Tx
open Go Go.Sx
/-! sabretache/sabretacheref07.Sets -/
noncomputable def ref07_Sets_l4 : Loop1 := ⟨⟨[.b (.int .i64), .r [.s 9 [.str]], .r [.b .str, .b (.int .u32), .b (.int .u32)]], 67, [(4, (.own 5000)), (5, (.own 1100)), (6, .v)], [⟨1100, 0, .row true 113 [.s 9 [.str]]⟩, ⟨5000, 0, .row true 100 [.b .str, .b (.int .u32), .b (.int .u32)]⟩]⟩, [(.ret, ⟨[.b (.int .i64)], 67, [(2, (.lit (.slice none 0 0))), (3, .v)], []⟩), (.exit 0, ⟨[.r [.b .str, .b (.int .u32), .b (.int .u32)]], 67, [(4, (.own 5000))], [⟨5000, 0, .row true 100 [.b .str, .b (.int .u32), .b (.int .u32)]⟩]⟩)], ref07_Sets_b4⟩
noncomputable def ref07_Sets_i : Pat := ⟨[.b .str], 67, [(0, .v)], []⟩
noncomputable def ref07_Sets_o : Exits := [(.ret, ⟨[.b (.int .i64), .r [.b .str, .b (.int .u32), .b (.int .u32)]], 67, [(2, (.own 5000)), (3, .v)], [⟨5000, 0, .row true 100 [.b .str, .b (.int .u32), .b (.int .u32)]⟩]⟩)]
noncomputable def ref07_Sets_s : TSum := TSum.of (baseC (fun _ => none) (fun _ => [])) (Go.Proofs.Tryz.f52.results.toList) 0 ref07_Sets_i ref07_Sets_o (fun v => ref07_Sets v)
noncomputable def ref07_Sets_z : Code := Option.getD Go.Proofs.Tryz.f52.body .skip
noncomputable def ref07_Sets_x (gl : Glob) : TCtx := { baseC gl (lookS [(102, [ref07_Lines_s]), (103, [ref07_span_s]), (115, [ref07_all_s])]) with inl := lookI [], fuel := 0, loops := lookL [(4, ref07_Sets_l4)], cuts := lookL [] }
theorem ref07_Sets_v {gl : Glob} (hg : Gs gl) : ValidS Go.Proofs.Tryz.prog gl 52 ref07_Sets_s := by
  refine validS_of (c := ref07_Sets_x gl) ?_ hm_ Go.Proofs.Tryz.func52 (body := ref07_Sets_z) ?_ ?_ ?_ ?_ ?_ ?_ ?_ ?_ ?_
  · exact tok_of tyB_ok cmpB_ok (.cons (.cons (ref07_Lines_v hg) .nil) (hb_ 102 Go.Proofs.Tryz.func102 (by kernel_rfl) (by kernel_rfl)) (.cons (.cons (ref07_span_v hg) .nil) (hb_ 103 Go.Proofs.Tryz.func103 (by kernel_rfl) (by kernel_rfl)) (.cons (.cons (ref07_all_v hg) .nil) (hb_ 115 Go.Proofs.Tryz.func115 (by kernel_rfl) (by kernel_rfl)) .nil))) .nil
  · kernel_rfl
  · rfl
  · exact annOK_by (l := [∀ v, ref07_Sets_l4.body v = (roundT (ref07_Sets_x gl) ref07_Sets_l4.pat ref07_Sets_l4.exits (subAt [1, 1, 1, 0, 1, 0, 0] ref07_Sets_z) v).run]) (by kernel_rfl) (⟨fun (a0, a1, a2) => Eq.symm (by kernel_rfl), trivial⟩)
  · exact fun v => Eq.symm (by kernel_rfl)
  · kernel_rfl
  · kernel_rfl
  · exact exitX_of (.cons (fun v => by kernel_rfl) .nil)
  · rfl
  · rfl
/-! sabretache/sabretacheref07.Decomps -/
noncomputable def ref07_Decomps_l4 : Loop1 := ⟨⟨[.b (.int .i64), .r [.s 9 [.str]], .r [.b (.int .u32), .s 22 [.int .u32], .b .bool, .b .bool]], 116, [(4, (.own 5000)), (5, (.own 1110)), (6, .v)], [⟨1110, 0, .row true 113 [.s 9 [.str]]⟩, ⟨5000, 0, .row true 68 [.b (.int .u32), .s 22 [.int .u32], .b .bool, .b .bool]⟩]⟩, [(.exit 0, ⟨[.r [.b (.int .u32), .s 22 [.int .u32], .b .bool, .b .bool]], 116, [(4, (.own 5000))], [⟨5000, 0, .row true 68 [.b (.int .u32), .s 22 [.int .u32], .b .bool, .b .bool]⟩]⟩), (.ret, ⟨[.b (.int .i64)], 116, [(2, (.lit (.slice none 0 0))), (3, .v)], []⟩)], ref07_Decomps_b4⟩
noncomputable def ref07_Decomps_l11 : Loop1 := ⟨⟨[.b (.int .i64), .b (.int .i64), .r [.b (.int .u32), .s 22 [.int .u32], .b .bool, .b .bool], .r [.s 9 [.str]], .r [.b .str], .b (.int .u32), .b .bool, .b .bool, .r [.b (.int .u32)]], 116, [(4, (.own 5000)), (5, (.own 1110)), (6, .v), (7, (.own 1210)), (8, (.ptr 108 0)), (9, .v)], [⟨5000, 0, .row true 68 [.b (.int .u32), .s 22 [.int .u32], .b .bool, .b .bool]⟩, ⟨1110, 0, .row true 113 [.s 9 [.str]]⟩, ⟨1210, 0, .row false 9 [.b .str]⟩, ⟨108, 0, .cells [.v, (.own 5001), .v, .v]⟩, ⟨5001, 0, .row true 22 [.b (.int .u32)]⟩]⟩, [(.exit 2, ⟨[.b (.int .i64), .r [.b (.int .u32), .s 22 [.int .u32], .b .bool, .b .bool], .r [.s 9 [.str]], .b (.int .u32), .b .bool, .b .bool, .r [.b (.int .u32)]], 116, [(4, (.own 5000)), (5, (.own 1110)), (6, .v), (8, (.ptr 108 0))], [⟨5000, 0, .row true 68 [.b (.int .u32), .s 22 [.int .u32], .b .bool, .b .bool]⟩, ⟨1110, 0, .row true 113 [.s 9 [.str]]⟩, ⟨108, 0, .cells [.v, (.own 5001), .v, .v]⟩, ⟨5001, 0, .row true 22 [.b (.int .u32)]⟩]⟩), (.ret, ⟨[.b (.int .i64)], 116, [(2, (.lit (.slice none 0 0))), (3, .v)], []⟩)], ref07_Decomps_b11⟩
noncomputable def ref07_Decomps_k6 : Cut1 := ⟨⟨[.b (.int .i64), .r [.b (.int .u32), .s 22 [.int .u32], .b .bool, .b .bool], .r [.s 9 [.str]]], 116, [(4, (.own 5000)), (5, (.own 1110)), (6, .v)], [⟨5000, 0, .row true 68 [.b (.int .u32), .s 22 [.int .u32], .b .bool, .b .bool]⟩, ⟨1110, 0, .row true 113 [.s 9 [.str]]⟩]⟩, [(.ret, ⟨[.b (.int .i64)], 116, [(2, (.lit (.slice none 0 0))), (3, .v)], []⟩), (.normal, ⟨[.b (.int .i64), .r [.b (.int .u32), .s 22 [.int .u32], .b .bool, .b .bool], .r [.s 9 [.str]]], 116, [(4, (.own 5000)), (5, (.own 1110)), (6, .v)], [⟨5000, 0, .row true 68 [.b (.int .u32), .s 22 [.int .u32], .b .bool, .b .bool]⟩, ⟨1110, 0, .row true 113 [.s 9 [.str]]⟩]⟩)], ref07_Decomps_c6⟩
noncomputable def ref07_Decomps_k5 : Cut1 := ⟨⟨[.b (.int .i64), .r [.b (.int .u32), .s 22 [.int .u32], .b .bool, .b .bool], .r [.s 9 [.str]]], 116, [(4, (.own 5000)), (5, (.own 1110)), (6, .v)], [⟨5000, 0, .row true 68 [.b (.int .u32), .s 22 [.int .u32], .b .bool, .b .bool]⟩, ⟨1110, 0, .row true 113 [.s 9 [.str]]⟩]⟩, [(.normal, ⟨[.b (.int .i64), .r [.b (.int .u32), .s 22 [.int .u32], .b .bool, .b .bool], .r [.s 9 [.str]]], 116, [(4, (.own 5000)), (5, (.own 1110)), (6, .v)], [⟨5000, 0, .row true 68 [.b (.int .u32), .s 22 [.int .u32], .b .bool, .b .bool]⟩, ⟨1110, 0, .row true 113 [.s 9 [.str]]⟩]⟩)], ref07_Decomps_c5⟩
noncomputable def ref07_Decomps_k9 : Cut1 := ⟨⟨[.b (.int .i64), .r [.b (.int .u32), .s 22 [.int .u32], .b .bool, .b .bool], .r [.s 9 [.str]], .r [.b .str]], 116, [(4, (.own 5000)), (5, (.own 1110)), (6, .v), (7, (.own 1210))], [⟨5000, 0, .row true 68 [.b (.int .u32), .s 22 [.int .u32], .b .bool, .b .bool]⟩, ⟨1110, 0, .row true 113 [.s 9 [.str]]⟩, ⟨1210, 0, .row false 9 [.b .str]⟩]⟩, [(.ret, ⟨[.b (.int .i64)], 116, [(2, (.lit (.slice none 0 0))), (3, .v)], []⟩), (.normal, ⟨[.b (.int .i64), .r [.b (.int .u32), .s 22 [.int .u32], .b .bool, .b .bool], .r [.s 9 [.str]]], 116, [(4, (.own 5000)), (5, (.own 1110)), (6, .v)], [⟨5000, 0, .row true 68 [.b (.int .u32), .s 22 [.int .u32], .b .bool, .b .bool]⟩, ⟨1110, 0, .row true 113 [.s 9 [.str]]⟩]⟩)], ref07_Decomps_c9⟩
noncomputable def ref07_Decomps_k13 : Cut1 := ⟨⟨[.b (.int .i64), .b (.int .i64), .r [.b (.int .u32), .s 22 [.int .u32], .b .bool, .b .bool], .r [.s 9 [.str]], .r [.b .str], .b (.int .u32), .b .bool, .b .bool, .r [.b (.int .u32)]], 116, [(4, (.own 5000)), (5, (.own 1110)), (6, .v), (7, (.own 1210)), (8, (.ptr 108 0)), (9, .v)], [⟨5000, 0, .row true 68 [.b (.int .u32), .s 22 [.int .u32], .b .bool, .b .bool]⟩, ⟨1110, 0, .row true 113 [.s 9 [.str]]⟩, ⟨1210, 0, .row false 9 [.b .str]⟩, ⟨108, 0, .cells [.v, (.own 5001), .v, .v]⟩, ⟨5001, 0, .row true 22 [.b (.int .u32)]⟩]⟩, [(.ret, ⟨[.b (.int .i64)], 116, [(2, (.lit (.slice none 0 0))), (3, .v)], []⟩), (.normal, ⟨[.b (.int .i64), .b (.int .i64), .r [.b (.int .u32), .s 22 [.int .u32], .b .bool, .b .bool], .r [.s 9 [.str]], .r [.b .str], .b (.int .u32), .b .bool, .b .bool, .r [.b (.int .u32)]], 116, [(4, (.own 5000)), (5, (.own 1110)), (6, .v), (7, (.own 1210)), (8, (.ptr 108 0)), (9, .v)], [⟨5000, 0, .row true 68 [.b (.int .u32), .s 22 [.int .u32], .b .bool, .b .bool]⟩, ⟨1110, 0, .row true 113 [.s 9 [.str]]⟩, ⟨1210, 0, .row false 9 [.b .str]⟩, ⟨108, 0, .cells [.v, (.own 194), .v, .v]⟩, ⟨194, 0, .row true 22 [.b (.int .u32)]⟩]⟩)], ref07_Decomps_c13⟩
noncomputable def ref07_Decomps_k12 : Cut1 := ⟨⟨[.b (.int .i64), .b (.int .i64), .r [.b (.int .u32), .s 22 [.int .u32], .b .bool, .b .bool], .r [.s 9 [.str]], .r [.b .str], .b (.int .u32), .b .bool, .b .bool, .r [.b (.int .u32)]], 116, [(4, (.own 5000)), (5, (.own 1110)), (6, .v), (7, (.own 1210)), (8, (.ptr 108 0)), (9, .v)], [⟨5000, 0, .row true 68 [.b (.int .u32), .s 22 [.int .u32], .b .bool, .b .bool]⟩, ⟨1110, 0, .row true 113 [.s 9 [.str]]⟩, ⟨1210, 0, .row false 9 [.b .str]⟩, ⟨108, 0, .cells [.v, (.own 194), .v, .v]⟩, ⟨194, 0, .row true 22 [.b (.int .u32)]⟩]⟩, [(.normal, ⟨[.b (.int .i64), .b (.int .i64), .r [.b (.int .u32), .s 22 [.int .u32], .b .bool, .b .bool], .r [.s 9 [.str]], .r [.b .str], .b (.int .u32), .b .bool, .b .bool, .r [.b (.int .u32)]], 116, [(4, (.own 5000)), (5, (.own 1110)), (6, .v), (7, (.own 1210)), (8, (.ptr 108 0)), (9, .v)], [⟨5000, 0, .row true 68 [.b (.int .u32), .s 22 [.int .u32], .b .bool, .b .bool]⟩, ⟨1110, 0, .row true 113 [.s 9 [.str]]⟩, ⟨1210, 0, .row false 9 [.b .str]⟩, ⟨108, 0, .cells [.v, (.own 194), .v, .v]⟩, ⟨194, 0, .row true 22 [.b (.int .u32)]⟩]⟩)], ref07_Decomps_c12⟩
noncomputable def ref07_Decomps_k15 : Cut1 := ⟨⟨[.b (.int .i64), .b (.int .i64), .r [.b (.int .u32), .s 22 [.int .u32], .b .bool, .b .bool], .r [.s 9 [.str]], .r [.b .str], .b (.int .u32), .b .bool, .b .bool, .r [.b (.int .u32)]], 116, [(4, (.own 5000)), (5, (.own 1110)), (6, .v), (7, (.own 1210)), (8, (.ptr 108 0)), (9, .v)], [⟨5000, 0, .row true 68 [.b (.int .u32), .s 22 [.int .u32], .b .bool, .b .bool]⟩, ⟨1110, 0, .row true 113 [.s 9 [.str]]⟩, ⟨1210, 0, .row false 9 [.b .str]⟩, ⟨108, 0, .cells [.v, (.own 5001), .v, .v]⟩, ⟨5001, 0, .row true 22 [.b (.int .u32)]⟩]⟩, [(.normal, ⟨[.b (.int .i64), .b (.int .i64), .r [.b (.int .u32), .s 22 [.int .u32], .b .bool, .b .bool], .r [.s 9 [.str]], .r [.b .str], .b (.int .u32), .b .bool, .b .bool, .r [.b (.int .u32)]], 116, [(4, (.own 5000)), (5, (.own 1110)), (6, .v), (7, (.own 1210)), (8, (.ptr 108 0)), (9, .v)], [⟨5000, 0, .row true 68 [.b (.int .u32), .s 22 [.int .u32], .b .bool, .b .bool]⟩, ⟨1110, 0, .row true 113 [.s 9 [.str]]⟩, ⟨1210, 0, .row false 9 [.b .str]⟩, ⟨108, 0, .cells [.v, (.own 194), .v, .v]⟩, ⟨194, 0, .row true 22 [.b (.int .u32)]⟩]⟩)], ref07_Decomps_c15⟩
noncomputable def ref07_Decomps_k18 : Cut1 := ⟨⟨[.b (.int .i64), .r [.b (.int .u32), .s 22 [.int .u32], .b .bool, .b .bool], .r [.s 9 [.str]], .b (.int .u32), .b .bool, .b .bool, .r [.b (.int .u32)]], 116, [(4, (.own 5000)), (5, (.own 1110)), (6, .v), (8, (.ptr 108 0))], [⟨5000, 0, .row true 68 [.b (.int .u32), .s 22 [.int .u32], .b .bool, .b .bool]⟩, ⟨1110, 0, .row true 113 [.s 9 [.str]]⟩, ⟨108, 0, .cells [.v, (.own 5001), .v, .v]⟩, ⟨5001, 0, .row true 22 [.b (.int .u32)]⟩]⟩, [(.normal, ⟨[.b (.int .i64), .r [.b (.int .u32), .s 22 [.int .u32], .b .bool, .b .bool], .r [.s 9 [.str]]], 116, [(4, (.own 5000)), (5, (.own 1110)), (6, .v)], [⟨5000, 0, .row true 68 [.b (.int .u32), .s 22 [.int .u32], .b .bool, .b .bool]⟩, ⟨1110, 0, .row true 113 [.s 9 [.str]]⟩]⟩)], ref07_Decomps_c18⟩
noncomputable def ref07_Decomps_i : Pat := ⟨[.b .str], 116, [(0, .v)], []⟩
noncomputable def ref07_Decomps_o : Exits := [(.ret, ⟨[.b (.int .i64), .r [.b (.int .u32), .s 22 [.int .u32], .b .bool, .b .bool]], 116, [(2, (.own 5000)), (3, .v)], [⟨5000, 0, .row true 68 [.b (.int .u32), .s 22 [.int .u32], .b .bool, .b .bool]⟩]⟩)]
noncomputable def ref07_Decomps_s : TSum := TSum.of (baseC (fun _ => none) (fun _ => [])) (Go.Proofs.Tryz.f54.results.toList) 0 ref07_Decomps_i ref07_Decomps_o (fun v => ref07_Decomps v)
noncomputable def ref07_Decomps_z : Code := Option.getD Go.Proofs.Tryz.f54.body .skip
noncomputable def ref07_Decomps_x (gl : Glob) : TCtx := { baseC gl (lookS [(102, [ref07_Lines_s]), (110, [ref07_Point_s])]) with inl := lookI [], fuel := 0, loops := lookL [(4, ref07_Decomps_l4), (11, ref07_Decomps_l11)], cuts := lookL [(6, ref07_Decomps_k6), (5, ref07_Decomps_k5), (9, ref07_Decomps_k9), (13, ref07_Decomps_k13), (12, ref07_Decomps_k12), (15, ref07_Decomps_k15), (18, ref07_Decomps_k18)] }
theorem ref07_Decomps_v {gl : Glob} (hg : Gs gl) : ValidS Go.Proofs.Tryz.prog gl 54 ref07_Decomps_s := by
  refine validS_of (c := ref07_Decomps_x gl) ?_ hm_ Go.Proofs.Tryz.func54 (body := ref07_Decomps_z) ?_ ?_ ?_ ?_ ?_ ?_ ?_ ?_ ?_
  · exact tok_of tyB_ok cmpB_ok (.cons (.cons (ref07_Lines_v hg) .nil) (hb_ 102 Go.Proofs.Tryz.func102 (by kernel_rfl) (by kernel_rfl)) (.cons (.cons (ref07_Point_v hg) .nil) (hb_ 110 Go.Proofs.Tryz.func110 (by kernel_rfl) (by kernel_rfl)) .nil)) .nil
  · kernel_rfl
  · rfl
  · exact annOK_by (l := [∀ v, ref07_Decomps_k15.fn v = (pieceT (ref07_Decomps_x gl) ref07_Decomps_k15.pat ref07_Decomps_k15.exits (subAt [1, 1, 1, 0, 1, 0, 0, 1, 0, 0, 1, 1, 1, 0, 1, 0, 0, 1, 0, 0, 1] ref07_Decomps_z) v).run, ∀ v, ref07_Decomps_k12.fn v = (pieceT (ref07_Decomps_x gl) ref07_Decomps_k12.pat ref07_Decomps_k12.exits (subAt [1, 1, 1, 0, 1, 0, 0, 1, 0, 0, 1, 1, 1, 0, 1, 0, 0, 1, 1] ref07_Decomps_z) v).run, ∀ v, ref07_Decomps_k13.fn v = (pieceT (ref07_Decomps_x gl) ref07_Decomps_k13.pat ref07_Decomps_k13.exits (subAt [1, 1, 1, 0, 1, 0, 0, 1, 0, 0, 1, 1, 1, 0, 1, 0, 0, 1] ref07_Decomps_z) v).run, ∀ v, ref07_Decomps_l11.body v = (roundT (ref07_Decomps_x gl) ref07_Decomps_l11.pat ref07_Decomps_l11.exits (subAt [1, 1, 1, 0, 1, 0, 0, 1, 0, 0, 1, 1, 1, 0, 1, 0, 0] ref07_Decomps_z) v).run, ∀ v, ref07_Decomps_k18.fn v = (pieceT (ref07_Decomps_x gl) ref07_Decomps_k18.pat ref07_Decomps_k18.exits (subAt [1, 1, 1, 0, 1, 0, 0, 1, 0, 0, 1, 1, 1, 1, 1] ref07_Decomps_z) v).run, ∀ v, ref07_Decomps_k9.fn v = (pieceT (ref07_Decomps_x gl) ref07_Decomps_k9.pat ref07_Decomps_k9.exits (subAt [1, 1, 1, 0, 1, 0, 0, 1, 0, 0, 1, 1] ref07_Decomps_z) v).run, ∀ v, ref07_Decomps_k5.fn v = (pieceT (ref07_Decomps_x gl) ref07_Decomps_k5.pat ref07_Decomps_k5.exits (subAt [1, 1, 1, 0, 1, 0, 0, 1, 1] ref07_Decomps_z) v).run, ∀ v, ref07_Decomps_k6.fn v = (pieceT (ref07_Decomps_x gl) ref07_Decomps_k6.pat ref07_Decomps_k6.exits (subAt [1, 1, 1, 0, 1, 0, 0, 1] ref07_Decomps_z) v).run, ∀ v, ref07_Decomps_l4.body v = (roundT (ref07_Decomps_x gl) ref07_Decomps_l4.pat ref07_Decomps_l4.exits (subAt [1, 1, 1, 0, 1, 0, 0] ref07_Decomps_z) v).run]) (by kernel_rfl) (⟨fun (a0, a1, a2, a3, a4, a5, a6, a7, a8) => Eq.symm (by kernel_rfl), fun (a0, a1, a2, a3, a4, a5, a6, a7, a8) => Eq.symm (by kernel_rfl), fun (a0, a1, a2, a3, a4, a5, a6, a7, a8) => Eq.symm (by kernel_rfl), fun (a0, a1, a2, a3, a4, a5, a6, a7, a8) => Eq.symm (by kernel_rfl), fun (a0, a1, a2, a3, a4, a5, a6) => Eq.symm (by kernel_rfl), fun (a0, a1, a2, a3) => Eq.symm (by kernel_rfl), fun (a0, a1, a2) => Eq.symm (by kernel_rfl), fun (a0, a1, a2) => Eq.symm (by kernel_rfl), fun (a0, a1, a2) => Eq.symm (by kernel_rfl), trivial⟩)
  · exact fun v => Eq.symm (by kernel_rfl)
  · kernel_rfl
  · kernel_rfl
  · exact exitX_of (.cons (fun v => by kernel_rfl) .nil)
  · rfl
  · rfl
end Go.Tx

/- Printed by the driver (wip/drv): the contracts of Go functions, checked. -/
set_option linter.all false
set_option linter.unusedVariables false
set_option maxRecDepth 100000
set_option maxHeartbeats 0
namespace Go.Tx
open Go Go.Sx
/-! sabretache/sabretachelaw07.fits -/
noncomputable def law07_fits_i : Pat := ⟨[.b (.int .i64), .b (.int .i64), .b (.int .i64), .b (.int .i64), .b (.int .i64)], 35, [(0, .v), (1, .v), (2, .v), (3, .v), (4, .v)], []⟩
noncomputable def law07_fits_o : Exits := [(.ret, ⟨[.b .bool], 35, [(10, .v)], []⟩)]
noncomputable def law07_fits_s : TSum := TSum.of (baseC (fun _ => none) (fun _ => [])) (Go.Proofs.Tryz.f48.results.toList) 0 law07_fits_i law07_fits_o (fun v => law07_fits v.1 v.2.1 v.2.2.1 v.2.2.2.1 v.2.2.2.2)
noncomputable def law07_fits_z : Code := Option.getD Go.Proofs.Tryz.f48.body .skip
noncomputable def law07_fits_x (gl : Glob) : TCtx := { baseC gl (lookS []) with inl := lookI [], fuel := 0, loops := lookL [], cuts := lookL [] }
theorem law07_fits_v {gl : Glob} (hg : Gs gl) : ValidS Go.Proofs.Tryz.prog gl 48 law07_fits_s := by
  refine validS_of (c := law07_fits_x gl) ?_ hm_ Go.Proofs.Tryz.func48 (body := law07_fits_z) ?_ ?_ ?_ ?_ ?_ ?_ ?_ ?_ ?_
  · exact tok_of tyB_ok cmpB_ok .nil .nil
  · kernel_rfl
  · rfl
  · exact annOK_by (l := []) (by kernel_rfl) (trivial)
  · exact fun (a0, a1, a2, a3, a4) => Eq.symm (by kernel_rfl)
  · kernel_rfl
  · kernel_rfl
  · exact exitX_of (.cons (fun v => by kernel_rfl) .nil)
  · rfl
  · rfl
/-! sabretache/sabretachelaw07.ChartClasses -/
noncomputable def law07_ChartClasses_l12 : Loop1 := ⟨⟨[.b (.int .i64), .b (.int .i64), .r [.b (.int .u32), .b (.int .u32), .b (.int .u32)], .r [.b (.int .u32), .b (.int .u32), .b (.int .u32)], .r [.b (.int .u32), .b (.int .u32), .b (.int .u32)], .r [.b (.int .u32), .b (.int .u32), .b (.int .u32)]], 92, [(3, (.own 1220)), (6, (.own 1280)), (8, (.own 1330)), (11, (.own 1390)), (63, .v), (64, .v)], [⟨1220, 0, .row true 85 [.b (.int .u32), .b (.int .u32), .b (.int .u32)]⟩, ⟨1280, 0, .row true 85 [.b (.int .u32), .b (.int .u32), .b (.int .u32)]⟩, ⟨1330, 0, .row true 87 [.b (.int .u32), .b (.int .u32), .b (.int .u32)]⟩, ⟨1390, 0, .row true 87 [.b (.int .u32), .b (.int .u32), .b (.int .u32)]⟩]⟩, [(.ret, ⟨[.b .bool], 92, [(2, .v)], []⟩), (.exit 0, ⟨[.r [.b (.int .u32), .b (.int .u32), .b (.int .u32)], .r [.b (.int .u32), .b (.int .u32), .b (.int .u32)]], 92, [(8, (.own 1330)), (11, (.own 1390))], [⟨1330, 0, .row true 87 [.b (.int .u32), .b (.int .u32), .b (.int .u32)]⟩, ⟨1390, 0, .row true 87 [.b (.int .u32), .b (.int .u32), .b (.int .u32)]⟩]⟩)], law07_ChartClasses_b12⟩
noncomputable def law07_ChartClasses_l18 : Loop1 := ⟨⟨[.b (.int .i64), .b (.int .i64), .r [.b (.int .u32), .b (.int .u32), .b (.int .u32)], .r [.b (.int .u32), .b (.int .u32), .b (.int .u32)]], 92, [(8, (.own 1330)), (11, (.own 1390)), (78, .v), (79, .v)], [⟨1330, 0, .row true 87 [.b (.int .u32), .b (.int .u32), .b (.int .u32)]⟩, ⟨1390, 0, .row true 87 [.b (.int .u32), .b (.int .u32), .b (.int .u32)]⟩]⟩, [(.ret, ⟨[.b .bool], 92, [(2, .v)], []⟩), (.exit 2, ⟨[], 92, [], []⟩)], law07_ChartClasses_b18⟩
noncomputable def law07_ChartClasses_i : Pat := ⟨[.b .str], 92, [(0, .v)], []⟩
noncomputable def law07_ChartClasses_o : Exits := [(.ret, ⟨[.b .bool], 92, [(2, .v)], []⟩)]
noncomputable def law07_ChartClasses_s : TSum := TSum.of (baseC (fun _ => none) (fun _ => [])) (Go.Proofs.Tryz.f8.results.toList) 0 law07_ChartClasses_i law07_ChartClasses_o (fun v => law07_ChartClasses v)
noncomputable def law07_ChartClasses_z : Code := Option.getD Go.Proofs.Tryz.f8.body .skip
noncomputable def law07_ChartClasses_x (gl : Glob) : TCtx := { baseC gl (lookS [(44, [chart_Classes_s]), (46, [chart_Runs_s]), (45, [ref07_Classes_s]), (47, [ref07_Runs_s]), (43, [law07_awake_s]), (48, [law07_fits_s])]) with inl := lookI [], fuel := 0, loops := lookL [(12, law07_ChartClasses_l12), (18, law07_ChartClasses_l18)], cuts := lookL [] }
theorem law07_ChartClasses_v {gl : Glob} (hg : Gs gl) : ValidS Go.Proofs.Tryz.prog gl 8 law07_ChartClasses_s := by
  refine validS_of (c := law07_ChartClasses_x gl) ?_ hm_ Go.Proofs.Tryz.func8 (body := law07_ChartClasses_z) ?_ ?_ ?_ ?_ ?_ ?_ ?_ ?_ ?_
  · exact tok_of tyB_ok cmpB_ok (.cons (.cons (chart_Classes_v hg) .nil) (hb_ 44 Go.Proofs.Tryz.func44 (by kernel_rfl) (by kernel_rfl)) (.cons (.cons (chart_Runs_v hg) .nil) (hb_ 46 Go.Proofs.Tryz.func46 (by kernel_rfl) (by kernel_rfl)) (.cons (.cons (ref07_Classes_v hg) .nil) (hb_ 45 Go.Proofs.Tryz.func45 (by kernel_rfl) (by kernel_rfl)) (.cons (.cons (ref07_Runs_v hg) .nil) (hb_ 47 Go.Proofs.Tryz.func47 (by kernel_rfl) (by kernel_rfl)) (.cons (.cons (law07_awake_v hg) .nil) (hb_ 43 Go.Proofs.Tryz.func43 (by kernel_rfl) (by kernel_rfl)) (.cons (.cons (law07_fits_v hg) .nil) (hb_ 48 Go.Proofs.Tryz.func48 (by kernel_rfl) (by kernel_rfl)) .nil)))))) .nil
  · kernel_rfl
  · rfl
  · exact annOK_by (l := [∀ v, law07_ChartClasses_l12.body v = (roundT (law07_ChartClasses_x gl) law07_ChartClasses_l12.pat law07_ChartClasses_l12.exits (subAt [1, 1, 1, 1, 1, 1, 1, 1, 0, 1, 0, 0] law07_ChartClasses_z) v).run, ∀ v, law07_ChartClasses_l18.body v = (roundT (law07_ChartClasses_x gl) law07_ChartClasses_l18.pat law07_ChartClasses_l18.exits (subAt [1, 1, 1, 1, 1, 1, 1, 1, 1, 0, 1, 0, 0] law07_ChartClasses_z) v).run]) (by kernel_rfl) (⟨fun (a0, a1, a2, a3, a4, a5) => Eq.symm (by kernel_rfl), fun (a0, a1, a2, a3) => Eq.symm (by kernel_rfl), trivial⟩)
  · exact fun v => Eq.symm (by kernel_rfl)
  · kernel_rfl
  · kernel_rfl
  · exact exitX_of (.cons (fun v => by kernel_rfl) .nil)
  · rfl
  · rfl
/-! sabretache/sabretachelaw07.ChartGiven -/
noncomputable def law07_ChartGiven_k3 : Cut1 := ⟨⟨[.b (.int .u16)], 142, [(0, .v)], []⟩, [(.ret, ⟨[.b .bool], 142, [(2, .v)], []⟩)], law07_ChartGiven_c3⟩
noncomputable def law07_ChartGiven_k11 : Cut1 := ⟨⟨[.b (.int .u16), .r [.b (.int .u32), .b (.int .u32), .b .str, .b .str, .b .str, .b .bool], .r [.b (.int .u32), .s 22 [.int .u32], .b .bool, .b .bool]], 142, [(0, .v), (3, (.own 1260)), (9, (.own 1360))], [⟨1260, 0, .row true 98 [.b (.int .u32), .b (.int .u32), .b .str, .b .str, .b .str, .b .bool]⟩, ⟨1360, 0, .row true 68 [.b (.int .u32), .s 22 [.int .u32], .b .bool, .b .bool]⟩]⟩, [(.ret, ⟨[.b .bool], 142, [(2, .v)], []⟩)], law07_ChartGiven_c11⟩
noncomputable def law07_ChartGiven_i : Pat := ⟨[.b (.int .u16)], 142, [(0, .v)], []⟩
noncomputable def law07_ChartGiven_o : Exits := [(.ret, ⟨[.b .bool], 142, [(2, .v)], []⟩)]
noncomputable def law07_ChartGiven_s : TSum := TSum.of (baseC (fun _ => none) (fun _ => [])) (Go.Proofs.Tryz.f11.results.toList) 0 law07_ChartGiven_i law07_ChartGiven_o (fun v => law07_ChartGiven v)
noncomputable def law07_ChartGiven_z : Code := Option.getD Go.Proofs.Tryz.f11.body .skip
noncomputable def law07_ChartGiven_x (gl : Glob) : TCtx := { baseC gl (lookS [(49, [chart_Ranges_s]), (44, [chart_Classes_s]), (53, [chart_Decomps_s]), (46, [chart_Runs_s]), (51, [chart_Sets_s]), (43, [law07_awake_s])]) with inl := lookI [], fuel := 0, loops := lookL [], cuts := lookL [(3, law07_ChartGiven_k3), (11, law07_ChartGiven_k11)] }
theorem law07_ChartGiven_v {gl : Glob} (hg : Gs gl) : ValidS Go.Proofs.Tryz.prog gl 11 law07_ChartGiven_s := by
  refine validS_of (c := law07_ChartGiven_x gl) ?_ hm_ Go.Proofs.Tryz.func11 (body := law07_ChartGiven_z) ?_ ?_ ?_ ?_ ?_ ?_ ?_ ?_ ?_
  · exact tok_of tyB_ok cmpB_ok (.cons (.cons (chart_Ranges_v hg) .nil) (hb_ 49 Go.Proofs.Tryz.func49 (by kernel_rfl) (by kernel_rfl)) (.cons (.cons (chart_Classes_v hg) .nil) (hb_ 44 Go.Proofs.Tryz.func44 (by kernel_rfl) (by kernel_rfl)) (.cons (.cons (chart_Decomps_v hg) .nil) (hb_ 53 Go.Proofs.Tryz.func53 (by kernel_rfl) (by kernel_rfl)) (.cons (.cons (chart_Runs_v hg) .nil) (hb_ 46 Go.Proofs.Tryz.func46 (by kernel_rfl) (by kernel_rfl)) (.cons (.cons (chart_Sets_v hg) .nil) (hb_ 51 Go.Proofs.Tryz.func51 (by kernel_rfl) (by kernel_rfl)) (.cons (.cons (law07_awake_v hg) .nil) (hb_ 43 Go.Proofs.Tryz.func43 (by kernel_rfl) (by kernel_rfl)) .nil)))))) .nil
  · kernel_rfl
  · rfl
  · exact annOK_by (l := [∀ v, law07_ChartGiven_k11.fn v = (pieceT (law07_ChartGiven_x gl) law07_ChartGiven_k11.pat law07_ChartGiven_k11.exits (subAt [1, 1, 1, 1, 1, 1, 1, 1, 1] law07_ChartGiven_z) v).run, ∀ v, law07_ChartGiven_k3.fn v = (pieceT (law07_ChartGiven_x gl) law07_ChartGiven_k3.pat law07_ChartGiven_k3.exits (subAt [1, 1] law07_ChartGiven_z) v).run]) (by kernel_rfl) (⟨fun (a0, a1, a2) => Eq.symm (by kernel_rfl), fun v => Eq.symm (by kernel_rfl), trivial⟩)
  · exact fun v => Eq.symm (by kernel_rfl)
  · kernel_rfl
  · kernel_rfl
  · exact exitX_of (.cons (fun v => by kernel_rfl) .nil)
  · rfl
  · rfl
/-! sabretache/sabretachelaw07.same -/
noncomputable def law07_same_l4 : Loop1 := ⟨⟨[.b (.int .i64), .b (.int .i64), .r [.b (.int .u32)], .r [.b (.int .u32)]], 26, [(0, (.own 0)), (1, (.own 1)), (12, .v), (13, .v)], [⟨0, 0, .row false 22 [.b (.int .u32)]⟩, ⟨1, 0, .row false 22 [.b (.int .u32)]⟩]⟩, [(.ret, ⟨[.b .bool, .r [.b (.int .u32)], .r [.b (.int .u32)]], 26, [(4, .v)], [⟨0, 0, .row false 22 [.b (.int .u32)]⟩, ⟨1, 0, .row false 22 [.b (.int .u32)]⟩]⟩), (.exit 0, ⟨[.r [.b (.int .u32)], .r [.b (.int .u32)]], 26, [], [⟨0, 0, .row false 22 [.b (.int .u32)]⟩, ⟨1, 0, .row false 22 [.b (.int .u32)]⟩]⟩)], law07_same_b4⟩
noncomputable def law07_same_i : Pat := ⟨[.r [.b (.int .u32)], .r [.b (.int .u32)]], 26, [(0, (.own 0)), (1, (.own 1))], [⟨0, 0, .row false 22 [.b (.int .u32)]⟩, ⟨1, 0, .row false 22 [.b (.int .u32)]⟩]⟩
noncomputable def law07_same_o : Exits := [(.ret, ⟨[.b .bool, .r [.b (.int .u32)], .r [.b (.int .u32)]], 26, [(4, .v)], [⟨0, 0, .row false 22 [.b (.int .u32)]⟩, ⟨1, 0, .row false 22 [.b (.int .u32)]⟩]⟩)]
noncomputable def law07_same_s : TSum := TSum.of (baseC (fun _ => none) (fun _ => [])) (Go.Proofs.Tryz.f55.results.toList) 2 law07_same_i law07_same_o (fun v => law07_same v.1 v.2)
noncomputable def law07_same_z : Code := Option.getD Go.Proofs.Tryz.f55.body .skip
noncomputable def law07_same_x (gl : Glob) : TCtx := { baseC gl (lookS []) with inl := lookI [], fuel := 0, loops := lookL [(4, law07_same_l4)], cuts := lookL [] }
theorem law07_same_v {gl : Glob} (hg : Gs gl) : ValidS Go.Proofs.Tryz.prog gl 55 law07_same_s := by
  refine validS_of (c := law07_same_x gl) ?_ hm_ Go.Proofs.Tryz.func55 (body := law07_same_z) ?_ ?_ ?_ ?_ ?_ ?_ ?_ ?_ ?_
  · exact tok_of tyB_ok cmpB_ok .nil .nil
  · kernel_rfl
  · rfl
  · exact annOK_by (l := [∀ v, law07_same_l4.body v = (roundT (law07_same_x gl) law07_same_l4.pat law07_same_l4.exits (subAt [1, 1, 0, 1, 0, 0] law07_same_z) v).run]) (by kernel_rfl) (⟨fun (a0, a1, a2, a3) => Eq.symm (by kernel_rfl), trivial⟩)
  · exact fun (a0, a1) => Eq.symm (by kernel_rfl)
  · kernel_rfl
  · kernel_rfl
  · exact exitX_of (.cons (fun v => by kernel_rfl) .nil)
  · rfl
  · rfl
/-! sabretache/sabretachelaw07.ChartDecomps -/
noncomputable def law07_ChartDecomps_l10 : Loop1 := ⟨⟨[.b (.int .i64), .b (.int .i64), .r [.b (.int .u32), .s 22 [.int .u32], .b .bool, .b .bool], .r [.b (.int .u32), .s 22 [.int .u32], .b .bool, .b .bool]], 91, [(3, (.own 1160)), (6, (.own 1220)), (35, .v), (36, .v)], [⟨1160, 0, .row true 68 [.b (.int .u32), .s 22 [.int .u32], .b .bool, .b .bool]⟩, ⟨1220, 0, .row true 68 [.b (.int .u32), .s 22 [.int .u32], .b .bool, .b .bool]⟩]⟩, [(.ret, ⟨[.b .bool], 91, [(2, .v)], []⟩), (.exit 0, ⟨[], 91, [], []⟩)], law07_ChartDecomps_b10⟩
noncomputable def law07_ChartDecomps_i : Pat := ⟨[.b .str], 91, [(0, .v)], []⟩
noncomputable def law07_ChartDecomps_o : Exits := [(.ret, ⟨[.b .bool], 91, [(2, .v)], []⟩)]
noncomputable def law07_ChartDecomps_s : TSum := TSum.of (baseC (fun _ => none) (fun _ => [])) (Go.Proofs.Tryz.f10.results.toList) 0 law07_ChartDecomps_i law07_ChartDecomps_o (fun v => law07_ChartDecomps v)
noncomputable def law07_ChartDecomps_z : Code := Option.getD Go.Proofs.Tryz.f10.body .skip
noncomputable def law07_ChartDecomps_x (gl : Glob) : TCtx := { baseC gl (lookS [(53, [chart_Decomps_s]), (54, [ref07_Decomps_s]), (43, [law07_awake_s]), (48, [law07_fits_s]), (55, [law07_same_s])]) with inl := lookI [], fuel := 0, loops := lookL [(10, law07_ChartDecomps_l10)], cuts := lookL [] }
theorem law07_ChartDecomps_v {gl : Glob} (hg : Gs gl) : ValidS Go.Proofs.Tryz.prog gl 10 law07_ChartDecomps_s := by
  refine validS_of (c := law07_ChartDecomps_x gl) ?_ hm_ Go.Proofs.Tryz.func10 (body := law07_ChartDecomps_z) ?_ ?_ ?_ ?_ ?_ ?_ ?_ ?_ ?_
  · exact tok_of tyB_ok cmpB_ok (.cons (.cons (chart_Decomps_v hg) .nil) (hb_ 53 Go.Proofs.Tryz.func53 (by kernel_rfl) (by kernel_rfl)) (.cons (.cons (ref07_Decomps_v hg) .nil) (hb_ 54 Go.Proofs.Tryz.func54 (by kernel_rfl) (by kernel_rfl)) (.cons (.cons (law07_awake_v hg) .nil) (hb_ 43 Go.Proofs.Tryz.func43 (by kernel_rfl) (by kernel_rfl)) (.cons (.cons (law07_fits_v hg) .nil) (hb_ 48 Go.Proofs.Tryz.func48 (by kernel_rfl) (by kernel_rfl)) (.cons (.cons (law07_same_v hg) .nil) (hb_ 55 Go.Proofs.Tryz.func55 (by kernel_rfl) (by kernel_rfl)) .nil))))) .nil
  · kernel_rfl
  · rfl
  · exact annOK_by (l := [∀ v, law07_ChartDecomps_l10.body v = (roundT (law07_ChartDecomps_x gl) law07_ChartDecomps_l10.pat law07_ChartDecomps_l10.exits (subAt [1, 1, 1, 1, 1, 1, 0, 1, 0, 0] law07_ChartDecomps_z) v).run]) (by kernel_rfl) (⟨fun (a0, a1, a2, a3) => Eq.symm (by kernel_rfl), trivial⟩)
  · exact fun v => Eq.symm (by kernel_rfl)
  · kernel_rfl
  · kernel_rfl
  · exact exitX_of (.cons (fun v => by kernel_rfl) .nil)
  · rfl
  · rfl
/-! sabretache/sabretachelaw07.ChartRanges -/
noncomputable def law07_ChartRanges_l12 : Loop1 := ⟨⟨[.b (.int .i64), .b (.int .i64), .r [.b (.int .u32), .b (.int .u32), .b .str, .b .str, .b .str, .b .bool], .r [.b (.int .u32), .b (.int .u32), .b .str, .b .str, .b .str, .b .bool], .r [.b .str, .b (.int .u32), .b (.int .u32)], .r [.b .str, .b (.int .u32), .b (.int .u32)]], 92, [(3, (.own 1220)), (6, (.own 1280)), (8, (.own 1330)), (11, (.own 1390)), (63, .v), (64, .v)], [⟨1220, 0, .row true 98 [.b (.int .u32), .b (.int .u32), .b .str, .b .str, .b .str, .b .bool]⟩, ⟨1280, 0, .row true 98 [.b (.int .u32), .b (.int .u32), .b .str, .b .str, .b .str, .b .bool]⟩, ⟨1330, 0, .row true 100 [.b .str, .b (.int .u32), .b (.int .u32)]⟩, ⟨1390, 0, .row true 100 [.b .str, .b (.int .u32), .b (.int .u32)]⟩]⟩, [(.ret, ⟨[.b .bool], 92, [(2, .v)], []⟩), (.exit 0, ⟨[.r [.b .str, .b (.int .u32), .b (.int .u32)], .r [.b .str, .b (.int .u32), .b (.int .u32)]], 92, [(8, (.own 1330)), (11, (.own 1390))], [⟨1330, 0, .row true 100 [.b .str, .b (.int .u32), .b (.int .u32)]⟩, ⟨1390, 0, .row true 100 [.b .str, .b (.int .u32), .b (.int .u32)]⟩]⟩)], law07_ChartRanges_b12⟩
noncomputable def law07_ChartRanges_l18 : Loop1 := ⟨⟨[.b (.int .i64), .b (.int .i64), .r [.b .str, .b (.int .u32), .b (.int .u32)], .r [.b .str, .b (.int .u32), .b (.int .u32)]], 92, [(8, (.own 1330)), (11, (.own 1390)), (78, .v), (79, .v)], [⟨1330, 0, .row true 100 [.b .str, .b (.int .u32), .b (.int .u32)]⟩, ⟨1390, 0, .row true 100 [.b .str, .b (.int .u32), .b (.int .u32)]⟩]⟩, [(.ret, ⟨[.b .bool], 92, [(2, .v)], []⟩), (.exit 2, ⟨[], 92, [], []⟩)], law07_ChartRanges_b18⟩
noncomputable def law07_ChartRanges_i : Pat := ⟨[.b .str], 92, [(0, .v)], []⟩
noncomputable def law07_ChartRanges_o : Exits := [(.ret, ⟨[.b .bool], 92, [(2, .v)], []⟩)]
noncomputable def law07_ChartRanges_s : TSum := TSum.of (baseC (fun _ => none) (fun _ => [])) (Go.Proofs.Tryz.f9.results.toList) 0 law07_ChartRanges_i law07_ChartRanges_o (fun v => law07_ChartRanges v)
noncomputable def law07_ChartRanges_z : Code := Option.getD Go.Proofs.Tryz.f9.body .skip
noncomputable def law07_ChartRanges_x (gl : Glob) : TCtx := { baseC gl (lookS [(49, [chart_Ranges_s]), (51, [chart_Sets_s]), (50, [ref07_Ranges_s]), (52, [ref07_Sets_s]), (43, [law07_awake_s]), (48, [law07_fits_s])]) with inl := lookI [], fuel := 0, loops := lookL [(12, law07_ChartRanges_l12), (18, law07_ChartRanges_l18)], cuts := lookL [] }
theorem law07_ChartRanges_v {gl : Glob} (hg : Gs gl) : ValidS Go.Proofs.Tryz.prog gl 9 law07_ChartRanges_s := by
  refine validS_of (c := law07_ChartRanges_x gl) ?_ hm_ Go.Proofs.Tryz.func9 (body := law07_ChartRanges_z) ?_ ?_ ?_ ?_ ?_ ?_ ?_ ?_ ?_
  · exact tok_of tyB_ok cmpB_ok (.cons (.cons (chart_Ranges_v hg) .nil) (hb_ 49 Go.Proofs.Tryz.func49 (by kernel_rfl) (by kernel_rfl)) (.cons (.cons (chart_Sets_v hg) .nil) (hb_ 51 Go.Proofs.Tryz.func51 (by kernel_rfl) (by kernel_rfl)) (.cons (.cons (ref07_Ranges_v hg) .nil) (hb_ 50 Go.Proofs.Tryz.func50 (by kernel_rfl) (by kernel_rfl)) (.cons (.cons (ref07_Sets_v hg) .nil) (hb_ 52 Go.Proofs.Tryz.func52 (by kernel_rfl) (by kernel_rfl)) (.cons (.cons (law07_awake_v hg) .nil) (hb_ 43 Go.Proofs.Tryz.func43 (by kernel_rfl) (by kernel_rfl)) (.cons (.cons (law07_fits_v hg) .nil) (hb_ 48 Go.Proofs.Tryz.func48 (by kernel_rfl) (by kernel_rfl)) .nil)))))) .nil
  · kernel_rfl
  · rfl
  · exact annOK_by (l := [∀ v, law07_ChartRanges_l12.body v = (roundT (law07_ChartRanges_x gl) law07_ChartRanges_l12.pat law07_ChartRanges_l12.exits (subAt [1, 1, 1, 1, 1, 1, 1, 1, 0, 1, 0, 0] law07_ChartRanges_z) v).run, ∀ v, law07_ChartRanges_l18.body v = (roundT (law07_ChartRanges_x gl) law07_ChartRanges_l18.pat law07_ChartRanges_l18.exits (subAt [1, 1, 1, 1, 1, 1, 1, 1, 1, 0, 1, 0, 0] law07_ChartRanges_z) v).run]) (by kernel_rfl) (⟨fun (a0, a1, a2, a3, a4, a5) => Eq.symm (by kernel_rfl), fun (a0, a1, a2, a3) => Eq.symm (by kernel_rfl), trivial⟩)
  · exact fun v => Eq.symm (by kernel_rfl)
  · kernel_rfl
  · kernel_rfl
  · exact exitX_of (.cons (fun v => by kernel_rfl) .nil)
  · rfl
  · rfl
end Go.Tx

/- What is cut off a text's ends, and 'made': pure lemmas, and what the printed functions come to. -/
set_option linter.unusedVariables false
set_option linter.unusedSimpArgs false
set_option maxRecDepth 100000
namespace Go.Pc
open Go Go.Sx Go.Tx

theorem runLoop_to {V X ι : Type} {b : V → Option (V ⊕ X)} (I : ι → Prop) (st : ι → V) (μ : ι → Nat) (r : X)
    (h : ∀ i, I i → (∃ j, b (st i) = some (.inl (st j)) ∧ I j ∧ μ j < μ i) ∨ b (st i) = some (.inr r)) (i : ι) (hi : I i) : runLoop b (st i) = some r := by
  obtain ⟨x, h1, h2⟩ := runLoop_ind I st μ (fun x => x = r) (fun i hi => (h i hi).imp (fun h => h) (fun h => ⟨r, h, rfl⟩)) i hi
  rw [h1, h2]

theorem wrap_i64 (n : Int) (h1 : -9223372036854775808 ≤ n) (h2 : n ≤ 9223372036854775807) : IntKind.i64.wrap n = n := by
  rw [IntKind.wrap_i64]; omega

theorem decode_pos (s : ByteArray) (p : Nat) (hp : p < s.size) : 1 ≤ (Utf8.decode s p).2 ∧ p + (Utf8.decode s p).2 ≤ s.size := by
  refine ⟨Lib.decode_width_pos s p hp, ?_⟩
  rw [Lib.decode_at]
  have := Lib.decodeN_width_le (s.size - p) (s.get! p).toNat (s.get! (p + 1)).toNat (s.get! (p + 2)).toNat (s.get! (p + 3)).toNat (by omega)
  omega

@[simp] theorem beq_cast (a b : Nat) : ((a : Int) == (b : Int)) = (a == b) := by
  rw [Bool.eq_iff_iff, beq_iff_eq, beq_iff_eq]
  omega

theorem decode_low (s : ByteArray) (p : Nat) (b : UInt8) (hp : s.data.toList[p]? = some b) (hb : b.toNat < 128) : Utf8.decode s p = (b.toNat, 1) := by
  have hlt : p < s.data.size := by
    have := (List.getElem?_eq_some_iff.1 hp).1
    simpa using this
  have hg : s.get! (p + 0) = b := by
    show s.data[p + 0]! = b
    rw [Nat.add_zero]
    simp only [Array.getElem!_eq_getD, Array.getD_eq_getD_getElem?]
    rw [← Array.getElem?_toList, hp]
    rfl
  unfold Utf8.decode
  simp only [hg]
  rw [if_pos (by omega)]

def cutL (s : ByteArray) (m : Nat → Bool) : Nat → Nat → ByteArray
  | 0, _ => ByteArray.empty
  | f + 1, p => if p < s.size then if m (Utf8.decode s p).1 then cutL s m f (p + (Utf8.decode s p).2) else s.extract p s.size else ByteArray.empty

def inSet (B : ByteArray) (c : Nat) : Bool := B.data.toList.any (fun b => c == b.toNat)

theorem cutL_fuel (s : ByteArray) (m : Nat → Bool) : ∀ (f f' p : Nat), s.size - p < f → s.size - p < f' → cutL s m f p = cutL s m f' p
  | 0, _, _, h, _ => by omega
  | _ + 1, 0, _, _, h => by omega
  | f + 1, f' + 1, p, h, h' => by
    simp only [cutL]
    by_cases hp : p < s.size
    · have hd := decode_pos s p hp
      rw [if_pos hp, if_pos hp, cutL_fuel s m f f' _ (by omega) (by omega)]
    · rw [if_neg hp, if_neg hp]

theorem cutL_skip {s : ByteArray} {m : Nat → Bool} {f p : Nat} (hp : p < s.size) (hm : m (Utf8.decode s p).1 = true) : cutL s m (f + 1) p = cutL s m f (p + (Utf8.decode s p).2) := by
  simp only [cutL]
  rw [if_pos hp, if_pos hm]

def Low (B : ByteArray) : Prop := ∀ b ∈ B.data.toList, b.toNat < 128

def cutR (m : Nat → Bool) : Nat → ByteArray → ByteArray
  | 0, s => s
  | f + 1, s => if 0 < s.size then if m (Lib.decodeLastL s.data.toList).1 then cutR m f (s.extract 0 (s.size - (Lib.decodeLastL s.data.toList).2)) else s else s

theorem cutR_fuel (m : Nat → Bool) : ∀ (f f' : Nat) (s : ByteArray), s.size ≤ f → s.size ≤ f' → cutR m f s = cutR m f' s
  | 0, 0, _, _, _ => rfl
  | 0, f' + 1, s, h, _ => by
    simp only [cutR]
    rw [if_neg (by omega)]
  | f + 1, 0, s, _, h => by
    simp only [cutR]
    rw [if_neg (by omega)]
  | f + 1, f' + 1, s, h, h' => by
    simp only [cutR]
    by_cases hp : 0 < s.size
    · have hw := Lib.decodeLastL_width s.data.toList (by rw [Array.length_toList]; exact hp)
      rw [if_pos hp, if_pos hp, cutR_fuel m f f' _ (by rw [ByteArray.size_extract]; omega) (by rw [ByteArray.size_extract]; omega)]
    · rw [if_neg hp, if_neg hp]

/-- All signs of a set. -/
def allIn (B s : ByteArray) : Bool := s.data.toList.all (fun b => B.data.toList.contains b)

theorem inSet_byte (B : ByteArray) (b : UInt8) : inSet B b.toNat = B.data.toList.contains b := by
  unfold inSet
  generalize B.data.toList = l
  induction l with
  | nil => rfl
  | cons x r ih =>
    rw [List.any_cons, ih, List.contains_cons]
    congr 1
    rw [Bool.eq_iff_iff, beq_iff_eq, beq_iff_eq]
    exact ⟨fun h => UInt8.toNat_inj.1 h, fun h => by rw [h]⟩

theorem inSet_low {B : ByteArray} (h : Low B) {c : Nat} (hc : inSet B c = true) : c < 128 := by
  unfold inSet at hc
  rw [List.any_eq_true] at hc
  obtain ⟨b, hb, he⟩ := hc
  have := h b hb
  simp only [beq_iff_eq] at he
  omega

theorem byte_at (s : ByteArray) (q : Nat) (hq : q < s.size) : s.data.toList[q]? = some (s[q]'hq) := by
  rw [Array.getElem?_toList]
  exact Array.getElem?_eq_getElem hq

theorem cutL_spec {B : ByteArray} (s : ByteArray) (h : Low B) : ∀ (f p : Nat), s.size - p < f → p ≤ s.size → (∀ b ∈ s.data.toList.take p, B.data.toList.contains b = true) →
    (cutL s (inSet B) f p = ByteArray.empty ∧ allIn B s = true) ∨ ∃ q, ∃ hq : q < s.size, cutL s (inSet B) f p = s.extract q s.size ∧ B.data.toList.contains (s[q]'hq) = false
  | 0, p, hf, _, _ => by omega
  | f + 1, p, hf, hp, hall => by
    simp only [cutL]
    have hsz : s.data.toList.length = s.size := Array.length_toList
    by_cases hlt : p < s.size
    · rw [if_pos hlt]
      by_cases hin : inSet B (Utf8.decode s p).1 = true
      · rw [if_pos hin]
        have hlow : (s[p]'hlt).toNat < 128 := by
          by_cases hb : (s[p]'hlt).toNat < 128
          · exact hb
          · have := (decode_high s p hlt (by omega)).1
            have := inSet_low h hin
            omega
        rw [decode_low s p _ (byte_at s p hlt) hlow] at hin ⊢
        rw [inSet_byte] at hin
        refine cutL_spec s h f (p + 1) (by omega) hlt (fun b hb => ?_)
        rw [List.take_add_one, List.mem_append] at hb
        rcases hb with hb | hb
        · exact hall b hb
        · rw [byte_at s p hlt] at hb
          simp only [Option.toList_some, List.mem_singleton] at hb
          rw [hb]; exact hin
      · rw [if_neg hin]
        refine .inr ⟨p, hlt, rfl, ?_⟩
        by_cases hb : (s[p]'hlt).toNat < 128
        · rw [decode_low s p _ (byte_at s p hlt) hb, inSet_byte] at hin
          simpa using hin
        · rw [← inSet_byte]
          cases hq : inSet B (s[p]'hlt).toNat with
          | false => rfl
          | true => exact absurd (inSet_low h hq) hb
    · rw [if_neg hlt]
      refine .inl ⟨rfl, ?_⟩
      unfold allIn
      rw [List.all_eq_true]
      intro b hb
      exact hall b (by rw [List.take_of_length_le (by omega)]; exact hb)

theorem decodeL_low (l : List UInt8) (hl : l ≠ []) (h : (Lib.decodeL l).1 < 128) : (Lib.decodeL l).2 = 1 ∧ (l.getD 0 0).toNat < 128 := by
  cases l with
  | nil => exact absurd rfl hl
  | cons b t =>
    by_cases hb : b.toNat < 128
    · exact ⟨by rw [Lib.decodeL_ascii b t hb], hb⟩
    · exfalso
      have hlt : 0 < (⟨(b :: t).toArray⟩ : ByteArray).size := by
        show 0 < (b :: t).toArray.size
        simp
      have := (decode_high ⟨(b :: t).toArray⟩ 0 hlt (by
        show 128 ≤ ((b :: t).toArray[0]).toNat
        simp
        omega)).1
      unfold Lib.decodeL at h
      omega

theorem decodeLast_low (l : List UInt8) (hl : l ≠ []) (h : (Lib.decodeLastL l).1 < 128) : Lib.decodeLastL l = ((l.getD (l.length - 1) 0).toNat, 1) := by
  unfold Lib.decodeLastL at h ⊢
  rw [if_neg hl] at h ⊢
  split at h
  · rename_i hb; rw [if_pos hb]
  · rename_i hb
    exfalso
    simp only at h
    split at h
    · rename_i hs
      have hlen : 0 < l.length := List.length_pos_iff.2 hl
      have hw := Lib.decodeLastL_width l hlen
      by_cases hd : l.drop (Lib.lastStart l) = []
      · rw [hd] at hs
        have h2 : (Lib.decodeL []).2 = 1 := by decide
        have h3 := List.drop_eq_nil_iff.1 hd
        omega
      · obtain ⟨h1, h2⟩ := decodeL_low _ hd h
        rw [h1] at hs
        rw [List.getD_eq_getElem?_getD, List.getElem?_drop] at h2
        rw [List.getD_eq_getElem?_getD] at hb
        have : Lib.lastStart l + 0 = l.length - 1 := by omega
        rw [this] at h2
        exact hb h2
    · simp [Utf8.runeError] at h

theorem cutR_spec {B : ByteArray} (h : Low B) : ∀ (f : Nat) (t : ByteArray) (ht : 0 < t.size), B.data.toList.contains (t[0]'ht) = false → 0 < (cutR (inSet B) f t).size
  | 0, t, ht, _ => ht
  | f + 1, t, ht, hc => by
    simp only [cutR]
    rw [if_pos ht]
    split
    · rename_i hin
      have hsz : t.data.toList.length = t.size := Array.length_toList
      have hne : t.data.toList ≠ [] := by intro e; rw [e] at hsz; simp at hsz; omega
      have hd := decodeLast_low t.data.toList hne (inSet_low h hin)
      rw [hd] at hin ⊢
      simp only at hin ⊢
      rw [inSet_byte, hsz] at hin
      have h1 : t.size ≠ 1 := by
        intro e
        rw [e] at hin
        rw [List.getD_eq_getElem?_getD, byte_at t 0 ht] at hin
        simp only [Option.getD_some] at hin
        rw [hin] at hc
        cases hc
      have hlt : 0 < (t.extract 0 (t.size - 1)).size := by rw [ByteArray.size_extract]; omega
      refine cutR_spec h f _ hlt ?_
      have e0 : (t.extract 0 (t.size - 1))[0]'hlt = t[0]'ht := by
        rw [ByteArray.getElem_extract]
      rw [e0]; exact hc
    · exact ht

theorem made_law (set s : ByteArray) (h : Low set) : (cutR (inSet set) (cutL s (inSet set) (s.size + 1) 0).size (cutL s (inSet set) (s.size + 1) 0)).toList.isEmpty = allIn set s := by
  rcases cutL_spec s h (s.size + 1) 0 (by omega) (by omega) (by simp) with ⟨h1, h2⟩ | ⟨q, hq, h1, h2⟩
  · rw [h1, h2, ByteArray.toList_eq]
    rfl
  · rw [h1]
    have hlt : 0 < (s.extract q s.size).size := by rw [ByteArray.size_extract]; omega
    have e0 : (s.extract q s.size)[0]'hlt = s[q]'hq := by
      rw [ByteArray.getElem_extract]
      congr 1
    have := cutR_spec h (s.extract q s.size).size _ hlt (by rw [e0]; exact h2)
    have hf : allIn set s = false := by
      unfold allIn
      rw [List.all_eq_false]
      exact ⟨s[q]'hq, List.mem_of_getElem? (byte_at s q hq), by simpa using h2⟩
    rw [hf, ByteArray.toList_eq]
    generalize cutR (inSet set) (s.extract q s.size).size (s.extract q s.size) = z at this
    cases hz : z.data.toList with
    | nil =>
      have : z.data.toList.length = z.size := Array.length_toList
      rw [hz] at this
      simp at this
      omega
    | cons x r => rfl


/-- The inner loop: is a rune in a set? -/
theorem cutLeft_in (s set : ByteArray) (h : Low set) (i : Int) (c : Nat) (p : Nat) : runLoop chart_cutLeft_b6 (s, set, i, (c : Int), false, s, p, set, 0) = some (s, set, i, inSet set c, s, p) := by
  have hsz : set.data.toList.length = set.size := Array.length_toList
  refine runLoop_to (fun q : Nat => q ≤ set.size) (fun q => (s, set, i, (c : Int), (set.data.toList.take q).any (fun b => c == b.toNat), s, p, set, q)) (fun q => set.size - q) _ ?_ 0 (Nat.zero_le _)
  intro q hq
  by_cases hlt : q < set.size
  · left
    obtain ⟨b, hb⟩ : ∃ b, set.data.toList[q]? = some b := ⟨_, List.getElem?_eq_getElem (by omega)⟩
    have hd := decode_low set q b hb (h b (List.mem_of_getElem? hb))
    refine ⟨q + 1, ?_, hlt, by omega⟩
    simp only [chart_cutLeft_b6, hd, decide_eq_true hlt, if_true]
    rw [List.take_add_one, hb, Option.toList_some, List.any_append]
    cases ha : (set.data.toList.take q).any (fun b => c == b.toNat) with
    | true => simp
    | false =>
      simp
      rw [Bool.eq_iff_iff, decide_eq_true_eq, beq_iff_eq]
      omega
  · right
    have : q = set.size := by omega
    subst this
    simp only [chart_cutLeft_b6, decide_eq_false hlt]
    rw [List.take_of_length_le (by omega)]
    rfl
theorem cutLeft_go (s set : ByteArray) (h : Low set) : ∀ (f p : Nat), p ≤ s.size → s.size - p < f → ((runLoop chart_cutLeft_b2 (s, set, s, p)).bind fun r0_0 =>
   match r0_0 with
   | .inl _ =>
    some (ByteArray.mk (List.toArray []))
   | .inr r2_0 =>
    some r2_0) = some (cutL s (inSet set) f p)
  | 0, p, _, hf => by omega
  | f + 1, p, hp, hf => by
    rw [runLoop_eq]
    by_cases hlt : p < s.size
    · have hd := decode_pos s p hlt
      simp only [chart_cutLeft_b2, decide_eq_true hlt, if_true, cutLeft_in s set h, Option.bind_some, cutL]
      cases hin : inSet set (Utf8.decode s p).1 with
      | true =>
        simp only [Bool.not_true, Bool.false_eq_true, if_false, if_true, Option.bind_some, if_pos hlt]
        exact cutLeft_go s set h f _ hd.2 (by omega)
      | false =>
        have h1 : (decide ((0 : Int) ≤ (p : Int)) && decide ((p : Int) ≤ (s.size : Int))) = true := by rw [Bool.and_eq_true, decide_eq_true_eq, decide_eq_true_eq]; omega
        simp only [Bool.not_false, if_true, h1, Option.bind_some, if_pos hlt, Bool.false_eq_true, if_false, Int.toNat_natCast]
    · simp only [chart_cutLeft_b2, decide_eq_false hlt, Bool.false_eq_true, if_false, Option.bind_some, cutL, if_neg hlt]
      rfl
theorem cutLeft_is (s set : ByteArray) (h : Low set) : chart_cutLeft s set = some (cutL s (inSet set) (s.size + 1) 0) := by
  unfold chart_cutLeft
  exact cutLeft_go s set h _ 0 (Nat.zero_le _) (by omega)

/-- The inner loop: is a rune in a set? -/
theorem cutRight_in (s set : ByteArray) (h : Low set) (c : Nat) (n : Int) : runLoop chart_cutRight_b5 (s, set, (c : Int), n, false, set, 0) = some (s, set, n, inSet set c) := by
  have hsz : set.data.toList.length = set.size := Array.length_toList
  refine runLoop_to (fun q : Nat => q ≤ set.size) (fun q => (s, set, (c : Int), n, (set.data.toList.take q).any (fun b => c == b.toNat), set, q)) (fun q => set.size - q) _ ?_ 0 (Nat.zero_le _)
  intro q hq
  by_cases hlt : q < set.size
  · left
    obtain ⟨b, hb⟩ : ∃ b, set.data.toList[q]? = some b := ⟨_, List.getElem?_eq_getElem (by omega)⟩
    have hd := decode_low set q b hb (h b (List.mem_of_getElem? hb))
    refine ⟨q + 1, ?_, hlt, by omega⟩
    simp only [chart_cutRight_b5, hd, decide_eq_true hlt, if_true]
    rw [List.take_add_one, hb, Option.toList_some, List.any_append]
    cases ha : (set.data.toList.take q).any (fun b => c == b.toNat) with
    | true => simp
    | false =>
      simp
      rw [Bool.eq_iff_iff, decide_eq_true_eq, beq_iff_eq]
      omega
  · right
    have : q = set.size := by omega
    subst this
    simp only [chart_cutRight_b5, decide_eq_false hlt]
    rw [List.take_of_length_le (by omega)]
    rfl
theorem cutRight_go (set : ByteArray) (h : Low set) : ∀ (f : Nat) (s : ByteArray), s.size ≤ f → s.size ≤ 9223372036854775807 → ((runLoop chart_cutRight_b1 (s, set)).bind fun r0_0 =>
   match r0_0 with
   | .inl r1_0 =>
    some r1_0
   | .inr r2_0 =>
    some r2_0) = some (cutR (inSet set) f s) := by
  intro f
  induction f with
  | zero =>
    intro s hf hs
    rw [runLoop_eq]
    have h0 : decide ((s.size : Int) > 0) = false := decide_eq_false (by omega)
    simp only [chart_cutRight_b1, h0, Bool.false_eq_true, if_false, Option.bind_some, cutR]
  | succ f ih =>
    intro s hf hs
    rw [runLoop_eq]
    by_cases hlt : 0 < s.size
    · have h0 : decide ((s.size : Int) > 0) = true := decide_eq_true (by omega)
      have hw := Lib.decodeLastL_width s.data.toList (by rw [Array.length_toList]; exact hlt)
      have hsl : s.data.toList.length = s.size := Array.length_toList
      rw [hsl] at hw
      simp only [chart_cutRight_b1, h0, if_true, utf8_DecodeLastRuneInString, if_pos hs, Option.bind_some, cutRight_in s set h, cutR, if_pos hlt]
      cases hin : inSet set (Lib.decodeLastL s.data.toList).1 with
      | false => simp only [Bool.not_false, if_true, Option.bind_some, Bool.false_eq_true, if_false]
      | true =>
        have hwr : IntKind.i64.wrap ((s.size : Int) - (Lib.decodeLastL s.data.toList).2) = ((s.size - (Lib.decodeLastL s.data.toList).2 : Nat) : Int) := by rw [wrap_i64] <;> omega
        have h1 : (decide ((0 : Int) ≤ ((s.size - (Lib.decodeLastL s.data.toList).2 : Nat) : Int)) && decide (((s.size - (Lib.decodeLastL s.data.toList).2 : Nat) : Int) ≤ (s.size : Int))) = true := by rw [Bool.and_eq_true, decide_eq_true_eq, decide_eq_true_eq]; omega
        simp only [Bool.not_true, Bool.false_eq_true, if_false, hwr, h1, if_true, Option.bind_some, Int.toNat_natCast]
        exact ih _ (by rw [ByteArray.size_extract]; omega) (by rw [ByteArray.size_extract]; omega)
    · have h0 : decide ((s.size : Int) > 0) = false := decide_eq_false (by omega)
      simp only [chart_cutRight_b1, h0, Bool.false_eq_true, if_false, Option.bind_some, cutR, if_neg hlt]
theorem cutRight_is (s set : ByteArray) (h : Low set) (hs : s.size ≤ 9223372036854775807) : chart_cutRight s set = some (cutR (inSet set) s.size s) := by
  unfold chart_cutRight
  exact cutRight_go set h _ s (Nat.le_refl _) hs

theorem made_is (s set : ByteArray) (l m : Int) (h : Low set) (hs : s.size ≤ 9223372036854775807) : chart_made s set l m = some (decide (l ≤ s.size) && decide (s.size ≤ m) && allIn set s) := by
  have hc : (cutL s (inSet set) (s.size + 1) 0).size ≤ s.size := by
    rcases cutL_spec s h (s.size + 1) 0 (by omega) (by omega) (by simp) with ⟨h1, _⟩ | ⟨q, hq, h1, _⟩
    · rw [h1]; exact Nat.zero_le _
    · rw [h1, ByteArray.size_extract]; omega
  unfold chart_made
  rw [cutLeft_is s set h]
  simp only [Option.bind_some]
  rw [cutRight_is _ set h (by omega)]
  simp only [Option.bind_some]
  have he : List.beq (cutR (inSet set) (cutL s (inSet set) (s.size + 1) 0).size (cutL s (inSet set) (s.size + 1) 0)).toList (ByteArray.mk (List.toArray [])).toList = allIn set s := by
    rw [← made_law set s h]
    have : (ByteArray.mk (List.toArray [])).toList = [] := by rw [ByteArray.toList_eq]
    rw [this]
    cases (cutR (inSet set) (cutL s (inSet set) (s.size + 1) 0).size (cutL s (inSet set) (s.size + 1) 0)).toList <;> rfl
  rw [he]
  by_cases h1 : l ≤ (s.size : Int)
  · by_cases h2 : (s.size : Int) ≤ m
    · simp [h1, h2]
    · simp [h1, h2]
  · simp [h1]
end Go.Pc

/- A code point's text: pure. -/
set_option linter.unusedVariables false
set_option linter.unusedSimpArgs false
set_option maxRecDepth 100000
namespace Go.Pc
open Go Go.Sx Go.Tx

def hexD (b : UInt8) : Prop := (48 ≤ b.toNat ∧ b.toNat ≤ 57) ∨ (65 ≤ b.toNat ∧ b.toNat ≤ 70)
def hexV (b : UInt8) : Nat := if b.toNat ≤ 57 then b.toNat - 48 else b.toNat - 55
def hexN (l : List UInt8) : Nat := l.foldl (fun n b => n * 16 + hexV b) 0

theorem hexV_lt {b : UInt8} (h : hexD b) : hexV b < 16 := by
  unfold hexV
  rcases h with h | h
  · rw [if_pos h.2]; omega
  · rw [if_neg (by omega)]; omega

theorem hexN_lt (l : List UInt8) (h : ∀ b ∈ l, hexD b) : hexN l < 16 ^ l.length := by
  have key : ∀ (l : List UInt8) (a k : Nat), (∀ b ∈ l, hexD b) → a < 16 ^ k → l.foldl (fun n b => n * 16 + hexV b) a < 16 ^ (k + l.length) := by
    intro l
    induction l with
    | nil => intro a k _ ha; exact ha
    | cons b r ih =>
      intro a k h ha
      rw [List.foldl_cons, List.length_cons, Nat.add_comm r.length 1, ← Nat.add_assoc]
      refine ih _ (k + 1) (fun b hb => h b (by simp [hb])) ?_
      have := hexV_lt (h b (by simp))
      rw [Nat.pow_succ]
      omega
  have := key l 0 0 h (by simp)
  rwa [Nat.zero_add] at this

def digitsB : ByteArray := ⟨#[48, 49, 50, 51, 52, 53, 54, 55, 56, 57, 65, 66, 67, 68, 69, 70]⟩
/-- Four to six digits of base 16; more than four don't begin with 0. -/
def isPt (s : ByteArray) : Bool := decide (4 ≤ s.size) && decide (s.size ≤ 6) && allIn digitsB s && !(decide (4 < s.size) && (s.data.toList.getD 0 0 == 48))
def ptN (s : ByteArray) : Nat := if isPt s then hexN s.data.toList else 0
def ptOK (s : ByteArray) : Bool := isPt s && decide (hexN s.data.toList ≤ 1114111)

theorem low_digits : Low digitsB := by unfold Low digitsB; decide
theorem hexD_of {s : ByteArray} (h : allIn digitsB s = true) : ∀ b ∈ s.data.toList, hexD b := by
  intro b hb
  unfold allIn at h
  rw [List.all_eq_true] at h
  have := h b hb
  unfold digitsB at this
  simp at this
  unfold hexD
  rcases this with h | h | h | h | h | h | h | h | h | h | h | h | h | h | h | h <;> subst h <;> decide


theorem lower_is (c : Nat) (h1 : 65 ≤ c) (h2 : c ≤ 70) : internal_strconv_lower (c : Int) = some ((c : Int) + 32) := by
  have : c = 65 ∨ c = 66 ∨ c = 67 ∨ c = 68 ∨ c = 69 ∨ c = 70 := by omega
  rcases this with rfl | rfl | rfl | rfl | rfl | rfl <;> decide

theorem getD_map_toNat (L : List UInt8) (i : Nat) (b : UInt8) (h : L[i]? = some b) : (L.map (fun x : UInt8 => ((x.toNat : Nat) : Int))).getD i 0 = (b.toNat : Int) := by
  rw [List.getD_eq_getElem?_getD, List.getElem?_map, h]; rfl

theorem parse_loop (s : ByteArray) (h2 : s.size ≤ 6) (h3 : ∀ b ∈ s.data.toList, hexD b) :
    runLoop internal_strconv_ParseUint_b36 (false, s, false, 0, ((s.data.toList.map (fun x : UInt8 => ((x.toNat : Nat) : Int))).length : Int), 0, s.data.toList.map (fun x : UInt8 => ((x.toNat : Nat) : Int))) = some (.inr (s, false, (hexN s.data.toList : Int))) := by
  have hsz : s.data.toList.length = s.size := Array.length_toList
  generalize hL : s.data.toList = L at *
  have hlen : (L.map (fun x : UInt8 => ((x.toNat : Nat) : Int))).length = L.length := List.length_map _
  refine runLoop_to (fun i : Nat => i ≤ L.length) (fun i : Nat => (false, s, false, ((hexN (L.take i) : Nat) : Int), ((L.map (fun x : UInt8 => ((x.toNat : Nat) : Int))).length : Int), (i : Int), L.map (fun x : UInt8 => ((x.toNat : Nat) : Int)))) (fun i => L.length - i) _ ?_ 0 (Nat.zero_le _)
  intro i hi
  by_cases hlt : i < L.length
  · left
    refine ⟨i + 1, ?_, hlt, by omega⟩
    obtain ⟨b, hb⟩ : ∃ b, L[i]? = some b := ⟨_, List.getElem?_eq_getElem hlt⟩
    have hbd := h3 b (List.mem_of_getElem? hb)
    have hn : hexN (L.take i) ≤ 1048575 := by
      have := hexN_lt (L.take i) (fun b hb => h3 b (List.mem_of_mem_take hb))
      have hl : (L.take i).length ≤ 5 := by rw [List.length_take]; omega
      have : 16 ^ (L.take i).length ≤ 16 ^ 5 := Nat.pow_le_pow_right (by omega) hl
      omega
    have hst : hexN (L.take (i + 1)) = hexN (L.take i) * 16 + hexV b := by
      rw [List.take_add_one, hb]
      simp [hexN]
    rw [hst]
    generalize hexN (L.take i) = n at *
    have w1 : IntKind.u8.wrap 16 = 16 := by decide
    have w2 : IntKind.u64.wrap 16 = 16 := by decide
    have w3 : IntKind.u64.wrap ((n : Int) * 16) = n * 16 := by rw [IntKind.wrap_u64]; omega
    have w4 : IntKind.i64.wrap ((i : Int) + 1) = ((i + 1 : Nat) : Int) := by rw [wrap_i64] <;> omega
    have d0 : decide ((i : Int) < (L.length : Int)) = true := decide_eq_true (by omega)
    have d1 : decide ((0 : Int) ≤ (i : Int)) = true := decide_eq_true (by omega)
    have d2 : decide ((n : Int) ≥ 1152921504606846976) = false := decide_eq_false (by omega)
    have g := getD_map_toNat L i b hb
    rcases hbd with ⟨e1, e2⟩ | ⟨e1, e2⟩
    · have hv : hexV b = b.toNat - 48 := by unfold hexV; rw [if_pos e2]
      have w5 : IntKind.u8.wrap ((b.toNat : Int) - 48) = ((b.toNat - 48 : Nat) : Int) := by rw [IntKind.wrap_u8]; omega
      have w6 : IntKind.u64.wrap ((b.toNat - 48 : Nat) : Int) = ((b.toNat - 48 : Nat) : Int) := by rw [IntKind.wrap_u64]; omega
      have w7 : IntKind.u64.wrap ((n : Int) * 16 + ((b.toNat - 48 : Nat) : Int)) = ((n * 16 + (b.toNat - 48) : Nat) : Int) := by rw [IntKind.wrap_u64]; omega
      have c1 : decide ((b.toNat : Int) = 95) = false := decide_eq_false (by omega)
      have c2 : decide ((48 : Int) ≤ b.toNat) = true := decide_eq_true (by omega)
      have c3 : decide ((b.toNat : Int) ≤ 57) = true := decide_eq_true (by omega)
      have c4 : decide (((b.toNat - 48 : Nat) : Int) ≥ 16) = false := decide_eq_false (by omega)
      have c5 : decide (((n * 16 + (b.toNat - 48) : Nat) : Int) < (n : Int) * 16) = false := decide_eq_false (by omega)
      have c6 : decide (((n * 16 + (b.toNat - 48) : Nat) : Int) > 4294967295) = false := decide_eq_false (by omega)
      simp only [internal_strconv_ParseUint_b36, hlen, d0, d1, Int.toNat_natCast, decide_eq_true hlt, Bool.and_self, if_true, g, c1, Bool.false_eq_true, if_false, c2, c3, w1, w2, w3, w4, w5, w6, w7, c4, d2, c5, c6, hv]
    · have hv : hexV b = b.toNat - 55 := by unfold hexV; rw [if_neg (by omega)]
      have lw := lower_is b.toNat e1 e2
      have w5 : IntKind.u8.wrap ((b.toNat : Int) + 32 - 97) = ((b.toNat - 65 : Nat) : Int) := by rw [IntKind.wrap_u8]; omega
      have w6 : IntKind.u8.wrap (((b.toNat - 65 : Nat) : Int) + 10) = ((b.toNat - 55 : Nat) : Int) := by rw [IntKind.wrap_u8]; omega
      have w8 : IntKind.u64.wrap ((b.toNat - 55 : Nat) : Int) = ((b.toNat - 55 : Nat) : Int) := by rw [IntKind.wrap_u64]; omega
      have w7 : IntKind.u64.wrap ((n : Int) * 16 + ((b.toNat - 55 : Nat) : Int)) = ((n * 16 + (b.toNat - 55) : Nat) : Int) := by rw [IntKind.wrap_u64]; omega
      have c1 : decide ((b.toNat : Int) = 95) = false := decide_eq_false (by omega)
      have c2 : decide ((48 : Int) ≤ b.toNat) = true := decide_eq_true (by omega)
      have c3 : decide ((b.toNat : Int) ≤ 57) = false := decide_eq_false (by omega)
      have c4 : decide (((b.toNat - 55 : Nat) : Int) ≥ 16) = false := decide_eq_false (by omega)
      have c5 : decide (((n * 16 + (b.toNat - 55) : Nat) : Int) < (n : Int) * 16) = false := decide_eq_false (by omega)
      have c6 : decide (((n * 16 + (b.toNat - 55) : Nat) : Int) > 4294967295) = false := decide_eq_false (by omega)
      have c7 : decide ((97 : Int) ≤ (b.toNat : Int) + 32) = true := decide_eq_true (by omega)
      have c8 : decide ((b.toNat : Int) + 32 ≤ 122) = true := decide_eq_true (by omega)
      simp only [internal_strconv_ParseUint_b36, hlen, d0, d1, Int.toNat_natCast, decide_eq_true hlt, Bool.and_self, if_true, g, c1, Bool.false_eq_true, if_false, c2, c3, lw, Option.bind_some, c7, c8, w1, w2, w3, w4, w5, w6, w7, w8, c4, d2, c5, c6, hv]
  · right
    have : i = L.length := by omega
    subst this
    have d0 : decide ((L.length : Int) < (L.length : Int)) = false := decide_eq_false (by omega)
    simp only [internal_strconv_ParseUint_b36, hlen, d0, Bool.false_eq_true, if_false]
    rw [List.take_of_length_le (Nat.le_refl _)]

theorem parse_is (s : ByteArray) (h1 : 1 ≤ s.size) (h2 : s.size ≤ 6) (h3 : ∀ b ∈ s.data.toList, hexD b) : strconv_ParseUint s = some (hexN s.data.toList : Int) := by
  have hsz : s.data.toList.length = s.size := Array.length_toList
  have hne : List.beq (ByteArray.toList s) (ByteArray.toList (ByteArray.mk (List.toArray []))) = false := by
    rw [ByteArray.toList_eq, ByteArray.toList_eq]
    cases hq : s.data.toList with
    | nil => rw [hq] at hsz; simp at hsz; omega
    | cons x r => rfl
  unfold strconv_ParseUint internal_strconv_ParseUint
  simp only [hne, Bool.false_eq_true, if_false, decide_eq_true (by omega : s.size ≤ 9223372036854775807), if_true]
  rw [parse_loop s h2 h3]
  rfl

theorem digits_eq : (ByteArray.mk (List.toArray [(48 : UInt8), (49 : UInt8), (50 : UInt8), (51 : UInt8), (52 : UInt8), (53 : UInt8), (54 : UInt8), (55 : UInt8), (56 : UInt8), (57 : UInt8), (65 : UInt8), (66 : UInt8), (67 : UInt8), (68 : UInt8), (69 : UInt8), (70 : UInt8)])) = digitsB := rfl

theorem point_is (s : ByteArray) (hs : s.size ≤ 9223372036854775807) : chart_point s = some ((ptN s : Int), ptOK s) := by
  unfold chart_point
  rw [digits_eq, made_is s digitsB 4 6 low_digits hs]
  simp only [Option.bind_some]
  by_cases hm : (decide ((4 : Int) ≤ (s.size : Int)) && decide ((s.size : Int) ≤ 6) && allIn digitsB s) = true
  · have hm' := hm
    simp only [Bool.and_eq_true, decide_eq_true_eq] at hm'
    obtain ⟨⟨h4, h6⟩, ha⟩ := hm'
    have hx := hexD_of ha
    have hb : hexN s.data.toList < 16 ^ 6 := by
      have h1 := hexN_lt s.data.toList hx
      have h2 : s.data.toList.length = s.size := Array.length_toList
      have : 16 ^ s.data.toList.length ≤ 16 ^ 6 := Nat.pow_le_pow_right (by omega) (by omega)
      omega
    have hu : IntKind.u32.wrap (hexN s.data.toList : Int) = hexN s.data.toList := by rw [IntKind.wrap_u32]; omega
    have hp := parse_is s (by omega) (by omega) hx
    have hle : decide ((hexN s.data.toList : Int) ≤ 1114111) = decide (hexN s.data.toList ≤ 1114111) := by rw [Bool.eq_iff_iff, decide_eq_true_eq, decide_eq_true_eq]; omega
    simp only [hm, Bool.not_true, Bool.false_eq_true, if_false, hp, Option.bind_some, hu, hle]
    have e4 : decide (4 ≤ s.size) = true := decide_eq_true (by omega)
    have e6 : decide (s.size ≤ 6) = true := decide_eq_true (by omega)
    by_cases h5 : 4 < s.size
    · have g5 : decide ((s.size : Int) > 4) = true := decide_eq_true (by omega)
      have g0 : decide ((0 : Int) < (s.size : Int)) = true := decide_eq_true (by omega)
      simp only [g5, g0, if_true]
      by_cases hz : s.data.toList.getD 0 0 = 48
      · have : decide (((s.data.toList.getD 0 (0 : UInt8)).toNat : Int) = 48) = true := decide_eq_true (by show ((s.data.toList.getD 0 0).toNat : Int) = 48; rw [hz]; rfl)
        simp only [this, if_true]
        have hf : isPt s = false := by unfold isPt; rw [e4, e6, ha, decide_eq_true h5, hz]; rfl
        simp [ptN, ptOK, hf]
      · have : decide (((s.data.toList.getD 0 (0 : UInt8)).toNat : Int) = 48) = false := decide_eq_false (fun e => hz (UInt8.toNat_inj.1 (by have : (48 : UInt8).toNat = 48 := rfl; have e' : ((s.data.toList.getD 0 0).toNat : Int) = 48 := e; omega)))
        simp only [this, Bool.false_eq_true, if_false]
        have hf : isPt s = true := by unfold isPt; rw [e4, e6, ha, decide_eq_true h5]; simp; simpa using hz
        simp [ptN, ptOK, hf]
    · have g5 : decide ((s.size : Int) > 4) = false := decide_eq_false (by omega)
      simp only [g5, Bool.false_eq_true, if_false]
      have hf : isPt s = true := by unfold isPt; rw [e4, e6, ha, decide_eq_false h5]; rfl
      simp [ptN, ptOK, hf]
  · have hm0 : (decide ((4 : Int) ≤ (s.size : Int)) && decide ((s.size : Int) ≤ 6) && allIn digitsB s) = false := by simpa using hm
    simp only [hm0, Bool.not_false, if_true]
    have hf : isPt s = false := by
      unfold isPt
      have e4 : decide (4 ≤ s.size) = decide ((4 : Int) ≤ (s.size : Int)) := by rw [Bool.eq_iff_iff, decide_eq_true_eq, decide_eq_true_eq]; omega
      have e6 : decide (s.size ≤ 6) = decide ((s.size : Int) ≤ 6) := by rw [Bool.eq_iff_iff, decide_eq_true_eq, decide_eq_true_eq]; omega
      rw [e4, e6, hm0]; rfl
    simp [ptN, ptOK, hf]

def spanOK (a b : ByteArray) : Bool := ptOK a && ptOK b && decide (ptN a ≤ ptN b)
theorem span_is (a b : ByteArray) (ha : a.size ≤ 9223372036854775807) (hb : b.size ≤ 9223372036854775807) : chart_span a b = some (spanOK a b, (ptN a : Int), (ptN b : Int)) := by
  unfold chart_span
  rw [point_is a ha, point_is b hb]
  simp only [Option.bind_some]
  have e : decide ((ptN a : Int) ≤ (ptN b : Int)) = decide (ptN a ≤ ptN b) := by rw [Bool.eq_iff_iff, decide_eq_true_eq, decide_eq_true_eq]; omega
  unfold spanOK
  cases ptOK a <;> cases ptOK b <;> simp [e]
end Go.Pc

/- strings.Split at one byte: pure. -/
set_option linter.unusedVariables false
set_option linter.unusedSimpArgs false
namespace Go.Pc
open Go Go.Sx Go.Tx

/-- A text at a byte: what is between. -/
def spl (c : UInt8) : List UInt8 → List (List UInt8)
  | [] => [[]]
  | b :: r => if b = c then [] :: spl c r else match spl c r with
    | [] => [[b]]
    | w :: ws => (b :: w) :: ws

theorem spl_ne (c : UInt8) : ∀ l, spl c l ≠ []
  | [] => by simp [spl]
  | b :: r => by
    unfold spl
    split
    · simp
    · split <;> simp

theorem splitK_spl (c : UInt8) : ∀ s : List UInt8, Lib.splitK [c] 0 (Lib.count s [c]) s = spl c s
  | [] => by rw [Lib.count_one]; rfl
  | b :: l => by
    have ih := splitK_spl c l
    by_cases h : b = c
    · subst h
      have hix : Lib.index (b :: l) [b] = ((0 : Nat) : Int) := by rw [Lib.index]; simp [List.isPrefixOf]
      rw [Lib.count_cons_eq, Nat.add_comm 1, Lib.splitK, if_neg (by rw [hix]; simp), hix, spl, if_pos rfl]
      simpa using ih
    · rw [Lib.count_cons_ne b c l h, spl, if_neg h, ← ih]
      have hp : ([c] : List UInt8).isPrefixOf (b :: l) = false := by simp [List.isPrefixOf, Ne.symm h]
      have hix : Lib.index (b :: l) [c] = if Lib.index l [c] == -1 then -1 else Lib.index l [c] + 1 := by rw [Lib.index, hp]; simp
      generalize Lib.count l [c] = k
      cases k with
      | zero => rfl
      | succ k =>
        by_cases hm : Lib.index l [c] = -1
        · rw [Lib.splitK, Lib.splitK, if_pos (by rw [hix, hm]; rfl), if_pos (by rw [hm]; rfl)]
        · have hge := Lib.index_ge l [c]
          obtain ⟨j, hj⟩ : ∃ j : Nat, Lib.index l [c] = j := ⟨(Lib.index l [c]).toNat, by omega⟩
          have hix' : Lib.index (b :: l) [c] = ((j + 1 : Nat) : Int) := by rw [hix, if_neg (fun e => hm (beq_iff_eq.1 e)), hj]; omega
          have n1 : ¬ ((Lib.index (b :: l) [c] == -1) = true) := fun e => by have := beq_iff_eq.1 e; omega
          have n2 : ¬ ((Lib.index l [c] == -1) = true) := fun e => by have := beq_iff_eq.1 e; omega
          rw [Lib.splitK, Lib.splitK, if_neg n1, if_neg n2, hix', hj]
          simp only [Int.toNat_natCast, Nat.add_zero, List.length_cons, List.length_nil, List.take_succ_cons, Nat.zero_add]
          rw [show j + 1 + 1 = (j + 1) + 1 from rfl, List.drop_succ_cons]

/-- The words between, as texts. -/
def spB (c : UInt8) (s : ByteArray) : List ByteArray := (spl c s.data.toList).map (fun l => ⟨l.toArray⟩)

theorem bytes_of (s : ByteArray) : (⟨s.data.toList.toArray⟩ : ByteArray) = s := by cases s; simp

theorem splitB_spl (c : UInt8) (s : ByteArray) : Lib.splitB ⟨#[c]⟩ 0 (Lib.countB s ⟨#[c]⟩) s = spB c s := by
  have h := Lib.splitB_data ⟨#[c]⟩ 0 (Lib.countB s ⟨#[c]⟩) s
  have h2 : Lib.countB s ⟨#[c]⟩ = Lib.count s.data.toList [c] := rfl
  have h3 := splitK_spl c s.data.toList
  unfold spB
  rw [← h3, ← h2, ← h, List.map_map]
  conv => lhs; rw [← List.map_id (Lib.splitB _ _ _ _)]
  apply List.map_congr_left
  intro x _
  simp [bytes_of]

theorem split_is (c : UInt8) (s : ByteArray) (h : s.size < 4294967281) : strings_Split s (ByteArray.mk (List.toArray [c])) = some (spB c s) := by
  have : (1 : Nat) ≤ (ByteArray.mk (List.toArray [c])).size := by simp [ByteArray.size]
  rw [strings_Split, if_pos ⟨h, this⟩]
  exact congrArg some (splitB_spl c s)

theorem spl_len (c : UInt8) : ∀ s : List UInt8, (spl c s).length ≤ s.length + 1
  | [] => by simp [spl]
  | b :: r => by
    have := spl_len c r
    unfold spl
    split
    · simp; omega
    · split
      · simp
      · rename_i h; rw [h] at this; simp at this ⊢; omega

theorem spl_word (c : UInt8) : ∀ (s : List UInt8) (w), w ∈ spl c s → w.length ≤ s.length
  | [], w, h => by simp [spl] at h; subst h; simp
  | b :: r, w, h => by
    unfold spl at h
    split at h
    · rcases List.mem_cons.1 h with rfl | h
      · simp
      · have := spl_word c r w h; simp; omega
    · split at h
      · simp at h; subst h; simp
      · rename_i w' ws e
        rcases List.mem_cons.1 h with rfl | h
        · have := spl_word c r w' (by rw [e]; simp); simp; omega
        · have := spl_word c r w (by rw [e]; simp [h]); simp; omega

theorem spB_len (c : UInt8) (s : ByteArray) : (spB c s).length ≤ s.size + 1 := by
  have := spl_len c s.data.toList
  rw [spB, List.length_map]
  rwa [Array.length_toList] at this
theorem spB_word (c : UInt8) (s w : ByteArray) (h : w ∈ spB c s) : w.size ≤ s.size := by
  obtain ⟨l, hl, rfl⟩ := List.mem_map.1 h
  have := spl_word c s.data.toList l hl
  rw [Array.length_toList] at this
  show l.toArray.size ≤ s.data.size
  rwa [List.size_toArray]
end Go.Pc

/- Charts read, line by line: pure; what the printed functions come to. -/
set_option linter.unusedVariables false
set_option linter.unusedSimpArgs false
set_option maxRecDepth 100000
namespace Go.Pc
open Go Go.Sx Go.Tx

/-- Lines read one behind the other; or the number of the first one that isn't taken. -/
def readR {T : Type} (one : List ByteArray → List T → Option T) : List (List ByteArray) → List T → Nat → List T ⊕ Nat
  | [], acc, _ => .inl acc
  | w :: r, acc, i => match one w acc with
    | none => .inr (i + 1)
    | some x => readR one r (acc ++ [x]) (i + 1)
def linesOf (s : ByteArray) : List (List ByteArray) := if s.size = 0 then [] else (spB 10 s).map (spB 32)
def resR {T : Type} (r : List T ⊕ Nat) : Int × Int × List T := match r with
  | .inl l => (0, 0, l)
  | .inr k => (3, (k : Int), [])
def outR {T : Type} (r : List T ⊕ Nat) : List T ⊕ (Int × Int) := match r with
  | .inl l => .inl l
  | .inr k => .inr (3, (k : Int))

theorem beq_nil (s : ByteArray) : List.beq (ByteArray.toList s) (ByteArray.toList (ByteArray.mk (List.toArray []))) = decide (s.size = 0) := by
  have hsz : s.data.toList.length = s.size := Array.length_toList
  rw [ByteArray.toList_eq, ByteArray.toList_eq]
  cases hq : s.data.toList with
  | nil => rw [hq] at hsz; simp at hsz; rw [decide_eq_true hsz.symm]; rfl
  | cons x r => rw [hq] at hsz; simp at hsz; rw [decide_eq_false (by omega)]; rfl

theorem read_go {T : Type} (b : Int × Int × List ByteArray × List T → Option ((Int × Int × List ByteArray × List T) ⊕ (List T ⊕ (Int × Int)))) (one : List ByteArray → List T → Option T) (L : List ByteArray)
    (hend : ∀ acc, b ((L.length : Int), (L.length : Int), L, acc) = some (.inr (.inl acc)))
    (hstep : ∀ (i : Nat) (acc : List T) (w : ByteArray), L[i]? = some w → acc.length = i → i < L.length → b ((L.length : Int), (i : Int), L, acc) = some (match one (spB 32 w) acc with
      | none => .inr (.inr (3, ((i + 1 : Nat) : Int)))
      | some x => .inl ((L.length : Int), ((i + 1 : Nat) : Int), L, acc ++ [x]))) :
    ∀ (n i : Nat) (acc : List T), n + i = L.length → acc.length = i → runLoop b ((L.length : Int), (i : Int), L, acc) = some (outR (readR one ((L.drop i).map (spB 32)) acc i)) := by
  intro n
  induction n with
  | zero =>
    intro i acc h1 h2
    have : i = L.length := by omega
    subst this
    rw [runLoop_done (hend acc), List.drop_length]; rfl
  | succ n ih =>
    intro i acc h1 h2
    have hi : i < L.length := by omega
    have hs := hstep i acc L[i] (List.getElem?_eq_getElem hi) h2 hi
    rw [List.drop_eq_getElem_cons hi, List.map_cons]
    unfold readR
    cases ho : one (spB 32 L[i]) acc with
    | none => rw [ho] at hs; rw [runLoop_done hs]; rfl
    | some x => rw [ho] at hs; rw [runLoop_step hs]; exact ih (i + 1) (acc ++ [x]) (by omega) (by simp [h2])

def behindI (e : Option Int) (f : Int) : Bool := match e with
  | none => true
  | some x => decide (x < f)
theorem last_cases {T : Type} (l : List T) : l = [] ∨ ∃ i x, l = i ++ [x] := by
  rcases List.eq_nil_or_concat l with h | ⟨i, x, h⟩
  · exact .inl h
  · exact .inr ⟨i, x, by rw [h, List.concat_eq_append]⟩
theorem getD_lst {T : Type} (i : List T) (x d : T) : (i ++ [x]).getD i.length d = x := by simp [List.getD]
theorem lt_cast (a b : Nat) : decide ((a : Int) < (b : Int)) = decide (a < b) := by rw [Bool.eq_iff_iff, decide_eq_true_eq, decide_eq_true_eq]; omega

theorem behindWeight_is (x y : Int) (l : List (Int × Int × Int)) (h : l.length ≤ 1000000) : chart_behind_Weight x y l = some (behindI (l.getLast?.map (fun e => e.2.1)) x, l) := by
  rcases last_cases l with rfl | ⟨i, e, rfl⟩
  · rfl
  · have hl : (i ++ [e]).length = i.length + 1 := by simp
    have hw : IntKind.i64.wrap ((((i ++ [e]).length : Nat) : Int) - 1) = (i.length : Int) := by rw [hl] at h ⊢; rw [wrap_i64] <;> omega
    have h0 : decide ((((i ++ [e]).length : Nat) : Int) = 0) = false := decide_eq_false (by rw [hl]; omega)
    have h1 : decide ((0 : Int) ≤ (i.length : Int)) = true := decide_eq_true (by omega)
    have h2 : decide ((i.length : Int) < (((i ++ [e]).length : Nat) : Int)) = true := decide_eq_true (by rw [hl]; omega)
    have h3 : decide (i.length < (i ++ [e]).length) = true := decide_eq_true (by rw [hl]; omega)
    unfold chart_behind_Weight
    simp only [h0, Bool.false_eq_true, if_false, hw, h1, h2, Bool.and_self, if_true, Int.toNat_natCast, h3, getD_lst, chart_Classes_1_1, Option.bind_some, List.getLast?_concat, Option.map_some, behindI]
theorem spannedWeight_ne (n : Int) (w : List ByteArray) (l : List (Int × Int × Int)) (h : (w.length : Int) ≠ n) : chart_spanned_Weight n w l = some (false, 0, 0, w, l) := by
  unfold chart_spanned_Weight
  have : (((w.length : Nat) : Int) != n) = true := by simpa using h
  simp only [this, if_true]
theorem spannedWeight_eq (n : Int) (a b : ByteArray) (r : List ByteArray) (l : List (Int × Int × Int)) (h : ((a :: b :: r).length : Int) = n) (ha : a.size ≤ 1000000) (hb : b.size ≤ 1000000) (hl : l.length ≤ 1000000) :
    chart_spanned_Weight n (a :: b :: r) l = some (spanOK a b && behindI (l.getLast?.map (fun e => e.2.1)) (ptN a), (ptN a : Int), (ptN b : Int), a :: b :: r, l) := by
  unfold chart_spanned_Weight
  have h0 : ((((a :: b :: r).length : Nat) : Int) != n) = false := by simpa using h
  have h1 : decide ((0 : Int) < (((a :: b :: r).length : Nat) : Int)) = true := decide_eq_true (by simp only [List.length_cons]; omega)
  have h2 : decide (0 < (a :: b :: r).length) = true := decide_eq_true (by simp only [List.length_cons]; omega)
  have h3 : decide ((1 : Int) < (((a :: b :: r).length : Nat) : Int)) = true := decide_eq_true (by simp only [List.length_cons]; omega)
  have h4 : decide (1 < (a :: b :: r).length) = true := decide_eq_true (by simp only [List.length_cons]; omega)
  have e0 : (a :: b :: r).getD 0 ByteArray.empty = a := rfl
  have e1 : (a :: b :: r).getD 1 ByteArray.empty = b := rfl
  simp only [h0, Bool.false_eq_true, if_false, h1, h2, h3, h4, if_true, e0, e1, span_is a b (by omega) (by omega), Option.bind_some]
  cases spanOK a b
  · simp
  · simp [behindWeight_is _ _ l hl]

theorem behindRun_is (x y : Int) (l : List (Int × Int × Int)) (h : l.length ≤ 1000000) : chart_behind_Run x y l = some (behindI (l.getLast?.map (fun e => e.2.1)) x, l) := by
  rcases last_cases l with rfl | ⟨i, e, rfl⟩
  · rfl
  · have hl : (i ++ [e]).length = i.length + 1 := by simp
    have hw : IntKind.i64.wrap ((((i ++ [e]).length : Nat) : Int) - 1) = (i.length : Int) := by rw [hl] at h ⊢; rw [wrap_i64] <;> omega
    have h0 : decide ((((i ++ [e]).length : Nat) : Int) = 0) = false := decide_eq_false (by rw [hl]; omega)
    have h1 : decide ((0 : Int) ≤ (i.length : Int)) = true := decide_eq_true (by omega)
    have h2 : decide ((i.length : Int) < (((i ++ [e]).length : Nat) : Int)) = true := decide_eq_true (by rw [hl]; omega)
    have h3 : decide (i.length < (i ++ [e]).length) = true := decide_eq_true (by rw [hl]; omega)
    unfold chart_behind_Run
    simp only [h0, Bool.false_eq_true, if_false, hw, h1, h2, Bool.and_self, if_true, Int.toNat_natCast, h3, getD_lst, chart_Runs_1_1, Option.bind_some, List.getLast?_concat, Option.map_some, behindI]
theorem spannedRun_ne (n : Int) (w : List ByteArray) (l : List (Int × Int × Int)) (h : (w.length : Int) ≠ n) : chart_spanned_Run n w l = some (false, 0, 0, w, l) := by
  unfold chart_spanned_Run
  have : (((w.length : Nat) : Int) != n) = true := by simpa using h
  simp only [this, if_true]
theorem spannedRun_eq (n : Int) (a b : ByteArray) (r : List ByteArray) (l : List (Int × Int × Int)) (h : ((a :: b :: r).length : Int) = n) (ha : a.size ≤ 1000000) (hb : b.size ≤ 1000000) (hl : l.length ≤ 1000000) :
    chart_spanned_Run n (a :: b :: r) l = some (spanOK a b && behindI (l.getLast?.map (fun e => e.2.1)) (ptN a), (ptN a : Int), (ptN b : Int), a :: b :: r, l) := by
  unfold chart_spanned_Run
  have h0 : ((((a :: b :: r).length : Nat) : Int) != n) = false := by simpa using h
  have h1 : decide ((0 : Int) < (((a :: b :: r).length : Nat) : Int)) = true := decide_eq_true (by simp only [List.length_cons]; omega)
  have h2 : decide (0 < (a :: b :: r).length) = true := decide_eq_true (by simp only [List.length_cons]; omega)
  have h3 : decide ((1 : Int) < (((a :: b :: r).length : Nat) : Int)) = true := decide_eq_true (by simp only [List.length_cons]; omega)
  have h4 : decide (1 < (a :: b :: r).length) = true := decide_eq_true (by simp only [List.length_cons]; omega)
  have e0 : (a :: b :: r).getD 0 ByteArray.empty = a := rfl
  have e1 : (a :: b :: r).getD 1 ByteArray.empty = b := rfl
  simp only [h0, Bool.false_eq_true, if_false, h1, h2, h3, h4, if_true, e0, e1, span_is a b (by omega) (by omega), Option.bind_some]
  cases spanOK a b
  · simp
  · simp [behindRun_is _ _ l hl]

theorem behindRange_is (x y : Int) (l : List (Int × Int × ByteArray × ByteArray × ByteArray × Bool)) (h : l.length ≤ 1000000) : chart_behind_Range x y l = some (behindI (l.getLast?.map (fun e => e.2.1)) x, l) := by
  rcases last_cases l with rfl | ⟨i, e, rfl⟩
  · rfl
  · have hl : (i ++ [e]).length = i.length + 1 := by simp
    have hw : IntKind.i64.wrap ((((i ++ [e]).length : Nat) : Int) - 1) = (i.length : Int) := by rw [hl] at h ⊢; rw [wrap_i64] <;> omega
    have h0 : decide ((((i ++ [e]).length : Nat) : Int) = 0) = false := decide_eq_false (by rw [hl]; omega)
    have h1 : decide ((0 : Int) ≤ (i.length : Int)) = true := decide_eq_true (by omega)
    have h2 : decide ((i.length : Int) < (((i ++ [e]).length : Nat) : Int)) = true := decide_eq_true (by rw [hl]; omega)
    have h3 : decide (i.length < (i ++ [e]).length) = true := decide_eq_true (by rw [hl]; omega)
    unfold chart_behind_Range
    simp only [h0, Bool.false_eq_true, if_false, hw, h1, h2, Bool.and_self, if_true, Int.toNat_natCast, h3, getD_lst, chart_Ranges_1_1, Option.bind_some, List.getLast?_concat, Option.map_some, behindI]
theorem spannedRange_ne (n : Int) (w : List ByteArray) (l : List (Int × Int × ByteArray × ByteArray × ByteArray × Bool)) (h : (w.length : Int) ≠ n) : chart_spanned_Range n w l = some (false, 0, 0, w, l) := by
  unfold chart_spanned_Range
  have : (((w.length : Nat) : Int) != n) = true := by simpa using h
  simp only [this, if_true]
theorem spannedRange_eq (n : Int) (a b : ByteArray) (r : List ByteArray) (l : List (Int × Int × ByteArray × ByteArray × ByteArray × Bool)) (h : ((a :: b :: r).length : Int) = n) (ha : a.size ≤ 1000000) (hb : b.size ≤ 1000000) (hl : l.length ≤ 1000000) :
    chart_spanned_Range n (a :: b :: r) l = some (spanOK a b && behindI (l.getLast?.map (fun e => e.2.1)) (ptN a), (ptN a : Int), (ptN b : Int), a :: b :: r, l) := by
  unfold chart_spanned_Range
  have h0 : ((((a :: b :: r).length : Nat) : Int) != n) = false := by simpa using h
  have h1 : decide ((0 : Int) < (((a :: b :: r).length : Nat) : Int)) = true := decide_eq_true (by simp only [List.length_cons]; omega)
  have h2 : decide (0 < (a :: b :: r).length) = true := decide_eq_true (by simp only [List.length_cons]; omega)
  have h3 : decide ((1 : Int) < (((a :: b :: r).length : Nat) : Int)) = true := decide_eq_true (by simp only [List.length_cons]; omega)
  have h4 : decide (1 < (a :: b :: r).length) = true := decide_eq_true (by simp only [List.length_cons]; omega)
  have e0 : (a :: b :: r).getD 0 ByteArray.empty = a := rfl
  have e1 : (a :: b :: r).getD 1 ByteArray.empty = b := rfl
  simp only [h0, Bool.false_eq_true, if_false, h1, h2, h3, h4, if_true, e0, e1, span_is a b (by omega) (by omega), Option.bind_some]
  cases spanOK a b
  · simp
  · simp [behindRange_is _ _ l hl]

def decN (l : List UInt8) : Nat := l.foldl (fun n b => n * 10 + (b.toNat - 48)) 0
def digits10 : ByteArray := ⟨#[48, 49, 50, 51, 52, 53, 54, 55, 56, 57]⟩
theorem low10 : Low digits10 := by unfold Low digits10; decide
theorem dig_of {s : ByteArray} (h : allIn digits10 s = true) : ∀ b ∈ s.data.toList, 48 ≤ b.toNat ∧ b.toNat ≤ 57 := by
  intro b hb
  unfold allIn at h
  rw [List.all_eq_true] at h
  have := h b hb
  unfold digits10 at this
  simp at this
  rcases this with h | h | h | h | h | h | h | h | h | h <;> subst h <;> decide
theorem decN_lt (l : List UInt8) (h : ∀ b ∈ l, 48 ≤ b.toNat ∧ b.toNat ≤ 57) : decN l < 10 ^ l.length := by
  have key : ∀ (l : List UInt8) (a k : Nat), (∀ b ∈ l, 48 ≤ b.toNat ∧ b.toNat ≤ 57) → a < 10 ^ k → l.foldl (fun n b => n * 10 + (b.toNat - 48)) a < 10 ^ (k + l.length) := by
    intro l
    induction l with
    | nil => intro a k _ ha; exact ha
    | cons b r ih =>
      intro a k h ha
      rw [List.foldl_cons, List.length_cons, Nat.add_comm r.length 1, ← Nat.add_assoc]
      refine ih _ (k + 1) (fun b hb => h b (by simp [hb])) ?_
      have := h b (by simp)
      rw [Nat.pow_succ]
      omega
  have := key l 0 0 h (by simp)
  rwa [Nat.zero_add] at this
theorem atoi_loop (s : ByteArray) (h2 : s.size ≤ 3) (h3 : ∀ b ∈ s.data.toList, 48 ≤ b.toNat ∧ b.toNat ≤ 57) :
    runLoop internal_strconv_Atoi_b10 (s, 0, ((s.data.toList.map (fun x : UInt8 => ((x.toNat : Nat) : Int))).length : Int), 0, s.data.toList.map (fun x : UInt8 => ((x.toNat : Nat) : Int))) = some (.inr (s, (decN s.data.toList : Int))) := by
  have hsz : s.data.toList.length = s.size := Array.length_toList
  generalize hL : s.data.toList = L at *
  have hlen : (L.map (fun x : UInt8 => ((x.toNat : Nat) : Int))).length = L.length := List.length_map _
  refine runLoop_to (fun i : Nat => i ≤ L.length) (fun i : Nat => (s, ((decN (L.take i) : Nat) : Int), ((L.map (fun x : UInt8 => ((x.toNat : Nat) : Int))).length : Int), (i : Int), L.map (fun x : UInt8 => ((x.toNat : Nat) : Int)))) (fun i => L.length - i) _ ?_ 0 (Nat.zero_le _)
  intro i hi
  by_cases hlt : i < L.length
  · left
    refine ⟨i + 1, ?_, hlt, by omega⟩
    obtain ⟨b, hb⟩ : ∃ b, L[i]? = some b := ⟨_, List.getElem?_eq_getElem hlt⟩
    have hbd := h3 b (List.mem_of_getElem? hb)
    have hn : decN (L.take i) ≤ 100 := by
      have := decN_lt (L.take i) (fun b hb => h3 b (List.mem_of_mem_take hb))
      have hl : (L.take i).length ≤ 2 := by rw [List.length_take]; omega
      have : 10 ^ (L.take i).length ≤ 10 ^ 2 := Nat.pow_le_pow_right (by omega) hl
      omega
    have hst : decN (L.take (i + 1)) = decN (L.take i) * 10 + (b.toNat - 48) := by
      rw [List.take_add_one, hb]
      simp [decN]
    rw [hst]
    generalize decN (L.take i) = n at *
    have w3 : IntKind.i64.wrap ((n : Int) * 10) = n * 10 := by rw [wrap_i64] <;> omega
    have w4 : IntKind.i64.wrap ((i : Int) + 1) = ((i + 1 : Nat) : Int) := by rw [wrap_i64] <;> omega
    have d0 : decide ((i : Int) < (L.length : Int)) = true := decide_eq_true (by omega)
    have d1 : decide ((0 : Int) ≤ (i : Int)) = true := decide_eq_true (by omega)
    have g := getD_map_toNat L i b hb
    have w5 : IntKind.u8.wrap ((b.toNat : Int) - 48) = ((b.toNat - 48 : Nat) : Int) := by rw [IntKind.wrap_u8]; omega
    have w6 : IntKind.i64.wrap ((b.toNat - 48 : Nat) : Int) = ((b.toNat - 48 : Nat) : Int) := by rw [wrap_i64] <;> omega
    have w7 : IntKind.i64.wrap ((n : Int) * 10 + ((b.toNat - 48 : Nat) : Int)) = ((n * 10 + (b.toNat - 48) : Nat) : Int) := by rw [wrap_i64] <;> omega
    have c1 : decide (((b.toNat - 48 : Nat) : Int) > 9) = false := decide_eq_false (by omega)
    simp only [internal_strconv_Atoi_b10, hlen, d0, d1, Int.toNat_natCast, decide_eq_true hlt, Bool.and_self, if_true, g, c1, Bool.false_eq_true, if_false, w3, w4, w5, w6, w7]
  · right
    have : i = L.length := by omega
    subst this
    have d0 : decide ((L.length : Int) < (L.length : Int)) = false := decide_eq_false (by omega)
    simp only [internal_strconv_Atoi_b10, hlen, d0, Bool.false_eq_true, if_false]
    rw [List.take_of_length_le (Nat.le_refl _)]
theorem atoi_is (s : ByteArray) (h1 : 1 ≤ s.size) (h2 : s.size ≤ 3) (h3 : ∀ b ∈ s.data.toList, 48 ≤ b.toNat ∧ b.toNat ≤ 57) : strconv_Atoi s = some (decN s.data.toList : Int) := by
  have hsz : s.data.toList.length = s.size := Array.length_toList
  have hm : s.data.toList.getD 0 0 ∈ s.data.toList := by
    cases hq : s.data.toList with
    | nil => rw [hq] at hsz; simp at hsz; omega
    | cons x r => simp [List.getD]
  have hb := h3 _ hm
  have c0 : decide ((0 : Int) < (s.size : Int)) = true := decide_eq_true (by omega)
  have c1 : decide ((s.size : Int) < 19) = true := decide_eq_true (by omega)
  have c2 : decide (((s.data.toList.getD 0 (0 : UInt8)).toNat : Int) = 45) = false := decide_eq_false (by omega)
  have c3 : decide (((s.data.toList.getD 0 (0 : UInt8)).toNat : Int) = 43) = false := decide_eq_false (by omega)
  have c4 : decide (s.size ≤ 9223372036854775807) = true := decide_eq_true (by omega)
  unfold strconv_Atoi internal_strconv_Atoi
  simp only [c0, c1, c2, c3, c4, if_true, Bool.false_eq_true, if_false, atoi_loop s h2 h3, Option.bind_some]

def numOK (c : ByteArray) : Bool := decide (1 ≤ c.size) && decide (c.size ≤ 3) && allIn digits10 c && !(c.data.toList.getD 0 0 == 48) && decide (decN c.data.toList ≤ 254)
def oneW (w : List ByteArray) (l : List (Int × Int × Int)) : Option (Int × Int × Int) := match w with
  | [a, b, c] => if spanOK a b && behindI (l.getLast?.map (fun e => e.2.1)) (ptN a) && numOK c then some ((ptN a : Int), (ptN b : Int), (decN c.data.toList : Int)) else none
  | _ => none
def oneRun (w : List ByteArray) (l : List (Int × Int × Int)) : Option (Int × Int × Int) := match w with
  | [a, b, c] => if spanOK a b && behindI (l.getLast?.map (fun e => e.2.1)) (ptN a) && ptOK c then some ((ptN a : Int), (ptN b : Int), (ptN c : Int)) else none
  | _ => none
theorem three {w : List ByteArray} (h : w.length = 3) : ∃ a b c, w = [a, b, c] := by
  match w, h with
  | [a, b, c], _ => exact ⟨a, b, c, rfl⟩
theorem oneW_ne {w : List ByteArray} (l) (h : w.length ≠ 3) : oneW w l = none := by
  unfold oneW
  split
  · simp at h
  · rfl
theorem oneRun_ne {w : List ByteArray} (l) (h : w.length ≠ 3) : oneRun w l = none := by
  unfold oneRun
  split
  · simp at h
  · rfl
theorem digits10_eq : ByteArray.extract (ByteArray.mk (List.toArray [(48 : UInt8), (49 : UInt8), (50 : UInt8), (51 : UInt8), (52 : UInt8), (53 : UInt8), (54 : UInt8), (55 : UInt8), (56 : UInt8), (57 : UInt8), (65 : UInt8), (66 : UInt8), (67 : UInt8), (68 : UInt8), (69 : UInt8), (70 : UInt8)])) 0 10 = digits10 := by
  rw [ByteArray.ext_iff]; decide
theorem le_cast1 (a b : Nat) : decide ((a : Int) ≤ (b : Int)) = decide (a ≤ b) := by rw [Bool.eq_iff_iff, decide_eq_true_eq, decide_eq_true_eq]; omega

theorem Classes1_is (w : List ByteArray) (l : List (Int × Int × Int)) (hw : ∀ x ∈ w, x.size ≤ 1000000) (hl : l.length ≤ 1000000) :
    ∃ a b n, chart_Classes_1 w l = some ((oneW w l).isSome, a, b, n, w, l) ∧ ∀ x, oneW w l = some x → x = (a, b, n) := by
  by_cases h3 : w.length = 3
  · obtain ⟨a, b, c, rfl⟩ := three h3
    have ha := hw a (by simp)
    have hb := hw b (by simp)
    have hc := hw c (by simp)
    unfold chart_Classes_1
    rw [spannedWeight_eq 3 a b [c] l (by rfl) ha hb hl, digits10_eq]
    simp only [Option.bind_some]
    cases hS : (spanOK a b && behindI (l.getLast?.map (fun e => e.2.1)) (ptN a))
    · have ho : oneW [a, b, c] l = none := by simp only [oneW, hS, Bool.false_and, Bool.false_eq_true, if_false]
      rw [ho]
      exact ⟨0, 0, 0, rfl, fun x h => by cases h⟩
    · have g2 : [a, b, c].getD 2 ByteArray.empty = c := rfl
      have e1 : decide ((2 : Int) < (([a, b, c].length : Nat) : Int)) = true := rfl
      have e2 : decide (2 < [a, b, c].length) = true := rfl
      simp only [Bool.not_true, Bool.false_eq_true, if_false, e1, e2, if_true, g2, made_is c digits10 1 3 low10 (by omega), Option.bind_some]
      have q1 : decide ((1 : Int) ≤ (c.size : Int)) = decide (1 ≤ c.size) := le_cast1 1 _
      have q2 : decide ((c.size : Int) ≤ 3) = decide (c.size ≤ 3) := le_cast1 _ 3
      rw [q1, q2]
      cases hM : (decide (1 ≤ c.size) && decide (c.size ≤ 3) && allIn digits10 c)
      · have ho : oneW [a, b, c] l = none := by simp only [oneW, hS, numOK, hM, Bool.false_and, Bool.and_false, Bool.false_eq_true, if_false]
        rw [ho]
        exact ⟨0, 0, 0, rfl, fun x h => by cases h⟩
      · have hM' := hM
        simp only [Bool.and_eq_true, decide_eq_true_eq] at hM'
        obtain ⟨⟨m1, m2⟩, m3⟩ := hM'
        have hd := dig_of m3
        have hat := atoi_is c m1 m2 hd
        have e3 : decide ((0 : Int) < (c.size : Int)) = true := decide_eq_true (by omega)
        have hz : decide (((c.data.toList.getD 0 (0 : UInt8)).toNat : Int) = 48) = (c.data.toList.getD 0 0 == 48) := by
          rw [Bool.eq_iff_iff, decide_eq_true_eq, beq_iff_eq]
          constructor
          · intro h; exact UInt8.toNat_inj.1 (by have : (48 : UInt8).toNat = 48 := rfl; omega)
          · intro h; rw [h]; rfl
        have hlt := decN_lt _ hd
        have hsz : c.data.toList.length = c.size := Array.length_toList
        have : 10 ^ c.data.toList.length ≤ 10 ^ 3 := Nat.pow_le_pow_right (by omega) (by omega)
        have hu : IntKind.u32.wrap (decN c.data.toList : Int) = decN c.data.toList := by rw [IntKind.wrap_u32]; omega
        have hle : decide ((decN c.data.toList : Int) ≤ 254) = decide (decN c.data.toList ≤ 254) := le_cast1 _ 254
        simp only [Bool.not_true, Bool.false_eq_true, if_false, e3, if_true, hz, hat, Option.bind_some, hu, hle]
        cases hZ : (c.data.toList.getD 0 0 == 48)
        · cases hN : decide (decN c.data.toList ≤ 254)
          · have ho : oneW [a, b, c] l = none := by simp only [oneW, hS, numOK, hM, hZ, hN, Bool.not_false, Bool.and_false, Bool.false_eq_true, if_false]
            rw [ho]
            exact ⟨_, _, _, rfl, fun x h => by cases h⟩
          · have ho : oneW [a, b, c] l = some ((ptN a : Int), (ptN b : Int), (decN c.data.toList : Int)) := by simp only [oneW, hS, numOK, hM, hZ, hN, Bool.not_false, Bool.and_self, if_true]
            rw [ho]
            exact ⟨_, _, _, rfl, fun x h => by cases h; rfl⟩
        · have ho : oneW [a, b, c] l = none := by simp only [oneW, hS, numOK, hM, hZ, Bool.not_true, Bool.and_false, Bool.false_and, Bool.false_eq_true, if_false]
          rw [ho]
          exact ⟨0, 0, 0, rfl, fun x h => by cases h⟩
  · unfold chart_Classes_1
    rw [spannedWeight_ne 3 w l (by omega), oneW_ne l h3]
    exact ⟨0, 0, 0, rfl, fun x h => by cases h⟩

theorem Runs1_is (w : List ByteArray) (l : List (Int × Int × Int)) (hw : ∀ x ∈ w, x.size ≤ 1000000) (hl : l.length ≤ 1000000) :
    ∃ a b n, chart_Runs_1 w l = some ((oneRun w l).isSome, a, b, n, w, l) ∧ ∀ x, oneRun w l = some x → x = (a, b, n) := by
  by_cases h3 : w.length = 3
  · obtain ⟨a, b, c, rfl⟩ := three h3
    have ha := hw a (by simp)
    have hb := hw b (by simp)
    have hc := hw c (by simp)
    unfold chart_Runs_1
    rw [spannedRun_eq 3 a b [c] l (by rfl) ha hb hl]
    simp only [Option.bind_some]
    cases hS : (spanOK a b && behindI (l.getLast?.map (fun e => e.2.1)) (ptN a))
    · have ho : oneRun [a, b, c] l = none := by simp only [oneRun, hS, Bool.false_and, Bool.false_eq_true, if_false]
      rw [ho]
      exact ⟨0, 0, 0, rfl, fun x h => by cases h⟩
    · have g2 : [a, b, c].getD 2 ByteArray.empty = c := rfl
      have e1 : decide ((2 : Int) < (([a, b, c].length : Nat) : Int)) = true := rfl
      have e2 : decide (2 < [a, b, c].length) = true := rfl
      simp only [Bool.not_true, Bool.false_eq_true, if_false, e1, e2, if_true, g2, point_is c (by omega), Option.bind_some]
      cases hM : ptOK c
      · have ho : oneRun [a, b, c] l = none := by simp only [oneRun, hS, hM, Bool.and_false, Bool.false_eq_true, if_false]
        rw [ho]
        exact ⟨_, _, _, rfl, fun x h => by cases h⟩
      · have ho : oneRun [a, b, c] l = some ((ptN a : Int), (ptN b : Int), (ptN c : Int)) := by simp only [oneRun, hS, hM, Bool.and_self, if_true]
        rw [ho]
        exact ⟨_, _, _, rfl, fun x h => by cases h; rfl⟩
  · unfold chart_Runs_1
    rw [spannedRun_ne 3 w l (by omega), oneRun_ne l h3]
    exact ⟨0, 0, 0, rfl, fun x h => by cases h⟩

theorem readWeight_is (s : ByteArray) (hs : s.size ≤ 1000000) : chart_read_Weight s = some (resR (readR oneW (linesOf s) [] 0)) := by
  unfold chart_read_Weight linesOf
  rw [beq_nil]
  by_cases h0 : s.size = 0
  · simp [h0, readR, resR]
  · rw [if_neg (by simpa using h0), if_neg h0, split_is 10 s (by omega)]
    simp only [Option.bind_some]
    have hL : (spB 10 s).length ≤ 1000001 := by have := spB_len 10 s; omega
    have hW : ∀ w ∈ spB 10 s, w.size ≤ 1000000 := fun w h => by have := spB_word 10 s w h; omega
    have hn : (spB 10 s).length ≤ s.size + 1 := spB_len 10 s
    generalize spB 10 s = L at *
    have key := read_go chart_read_Weight_b5 oneW L (fun acc => by simp [chart_read_Weight_b5]) ?_ L.length 0 [] (by omega) rfl
    · rw [show ((0 : Nat) : Int) = 0 from rfl, List.drop_zero] at key
      rw [key]
      simp only [Option.bind_some]
      cases readR oneW (L.map (spB 32)) [] 0 <;> rfl
    · intro i acc w hw ha hi
      have hm : w ∈ L := List.mem_of_getElem? hw
      have hws := hW w hm
      have d0 : decide ((i : Int) < (L.length : Int)) = true := decide_eq_true (by omega)
      have d1 : decide ((0 : Int) ≤ (i : Int)) = true := decide_eq_true (by omega)
      have d2 : decide (i < L.length) = true := decide_eq_true hi
      have hg : L.getD i ByteArray.empty = w := by rw [List.getD_eq_getElem?_getD, hw]; rfl
      have hwr : IntKind.i64.wrap ((i : Int) + 1) = ((i + 1 : Nat) : Int) := by rw [wrap_i64] <;> omega
      have hsp := split_is 32 w (by omega)
      have hww : ∀ x ∈ spB 32 w, x.size ≤ 1000000 := fun x h => by have := spB_word 32 w x h; omega
      obtain ⟨a, b, n, hc, hx⟩ := Classes1_is (spB 32 w) acc hww (by omega)
      simp only [chart_read_Weight_b5, d0, d1, d2, if_true, Bool.and_self, Int.toNat_natCast, hg, hsp, Option.bind_some, hc, hwr]
      cases ho : oneW (spB 32 w) acc with
      | none => simp
      | some x =>
        have := hx x ho
        subst this
        simp
        omega
theorem Classes_is (s : ByteArray) (hs : s.size ≤ 1000000) : chart_Classes s = some (resR (readR oneW (linesOf s) [] 0)) := by
  unfold chart_Classes
  rw [readWeight_is s hs]; rfl

theorem readRun_is (s : ByteArray) (hs : s.size ≤ 1000000) : chart_read_Run s = some (resR (readR oneRun (linesOf s) [] 0)) := by
  unfold chart_read_Run linesOf
  rw [beq_nil]
  by_cases h0 : s.size = 0
  · simp [h0, readR, resR]
  · rw [if_neg (by simpa using h0), if_neg h0, split_is 10 s (by omega)]
    simp only [Option.bind_some]
    have hL : (spB 10 s).length ≤ 1000001 := by have := spB_len 10 s; omega
    have hW : ∀ w ∈ spB 10 s, w.size ≤ 1000000 := fun w h => by have := spB_word 10 s w h; omega
    have hn : (spB 10 s).length ≤ s.size + 1 := spB_len 10 s
    generalize spB 10 s = L at *
    have key := read_go chart_read_Run_b5 oneRun L (fun acc => by simp [chart_read_Run_b5]) ?_ L.length 0 [] (by omega) rfl
    · rw [show ((0 : Nat) : Int) = 0 from rfl, List.drop_zero] at key
      rw [key]
      simp only [Option.bind_some]
      cases readR oneRun (L.map (spB 32)) [] 0 <;> rfl
    · intro i acc w hw ha hi
      have hm : w ∈ L := List.mem_of_getElem? hw
      have hws := hW w hm
      have d0 : decide ((i : Int) < (L.length : Int)) = true := decide_eq_true (by omega)
      have d1 : decide ((0 : Int) ≤ (i : Int)) = true := decide_eq_true (by omega)
      have d2 : decide (i < L.length) = true := decide_eq_true hi
      have hg : L.getD i ByteArray.empty = w := by rw [List.getD_eq_getElem?_getD, hw]; rfl
      have hwr : IntKind.i64.wrap ((i : Int) + 1) = ((i + 1 : Nat) : Int) := by rw [wrap_i64] <;> omega
      have hsp := split_is 32 w (by omega)
      have hww : ∀ x ∈ spB 32 w, x.size ≤ 1000000 := fun x h => by have := spB_word 32 w x h; omega
      obtain ⟨a, b, n, hc, hx⟩ := Runs1_is (spB 32 w) acc hww (by omega)
      simp only [chart_read_Run_b5, d0, d1, d2, if_true, Bool.and_self, Int.toNat_natCast, hg, hsp, Option.bind_some, hc, hwr]
      cases ho : oneRun (spB 32 w) acc with
      | none => simp
      | some x =>
        have := hx x ho
        subst this
        simp
        omega
theorem Runs_is (s : ByteArray) (hs : s.size ≤ 1000000) : chart_Runs s = some (resR (readR oneRun (linesOf s) [] 0)) := by
  unfold chart_Runs
  rw [readRun_is s hs]; rfl
end Go.Pc

/- Law 07's awake answers true: pure. -/
set_option linter.unusedVariables false
set_option maxRecDepth 100000
namespace Go.Pc
open Go Go.Sx Go.Tx

theorem aw_classes : chart_Classes (ByteArray.mk (List.toArray [(48 : UInt8), (51 : UInt8), (48 : UInt8), (48 : UInt8), (32 : UInt8), (48 : UInt8), (51 : UInt8), (49 : UInt8), (52 : UInt8), (32 : UInt8), (50 : UInt8), (51 : UInt8), (48 : UInt8)])) = some ((0 : Int), (0 : Int), [((768 : Int), (788 : Int), (230 : Int))]) := by
  rw [Classes_is _ (by decide)]
  kernel_rfl

theorem aw_loop : runLoop chart_Points_b3 ((2 : Int), (0 : Int), ([] : List ByteArray), [(65 : Int), (1114111 : Int)]) = some ([ByteArray.mk (List.toArray [(48 : UInt8), (48 : UInt8), (52 : UInt8), (49 : UInt8)]), ByteArray.mk (List.toArray [(49 : UInt8), (48 : UInt8), (70 : UInt8), (70 : UInt8), (70 : UInt8), (70 : UInt8)])], [(65 : Int), (1114111 : Int)]) :=
  runLoop_of (n := 4) (by kernel_rfl)

theorem aw_points : chart_Points [(65 : Int), (1114111 : Int)] = some (ByteArray.mk (List.toArray [(48 : UInt8), (48 : UInt8), (52 : UInt8), (49 : UInt8), (32 : UInt8), (49 : UInt8), (48 : UInt8), (70 : UInt8), (70 : UInt8), (70 : UInt8), (70 : UInt8)]), [(65 : Int), (1114111 : Int)]) := by
  unfold chart_Points
  rw [if_pos (by kernel_rfl)]
  exact (congrArg (fun o => Option.bind o _) aw_loop).trans (by kernel_rfl)

theorem law07_awake_is : law07_awake = some true := by
  unfold law07_awake
  rw [aw_classes, aw_points]
  kernel_rfl
end Go.Pc
