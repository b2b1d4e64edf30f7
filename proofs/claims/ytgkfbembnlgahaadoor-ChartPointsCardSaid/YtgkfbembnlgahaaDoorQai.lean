/- Part 9 of the proof of the statement that the last part names; it asks for no condition of its own. Here: GenAwB, GenRA, GenR2A, GenR3A, Big, GenL7A, GenRB, GenR2B, GenR3B, GenL7B, GenCpA, GenCpB. -/
import Derived.Test.YtgkfbembnlgahaaDoorQag
import Derived.Test.YtgkfbembnlgahaaDoorQah
import Derived.Test.YtgkfbembnlgahaaDoorQae
import Derived.Test.YtgkfbembnlgahaaDoorProg
set_option linter.all false
set_option linter.unusedVariables false
set_option maxRecDepth 100000
set_option maxHeartbeats 0
namespace Go.Tx
open Go Go.Sx
noncomputable def internal_strconv_isPowerOfTwo_i : Pat := ⟨[.b (.int .i64)], 8, [(0, .v)], []⟩
noncomputable def internal_strconv_isPowerOfTwo_o : Exits := [(.ret, ⟨[.b .bool], 8, [(2, .v)], []⟩)]
noncomputable def internal_strconv_isPowerOfTwo_s : TSum := TSum.of (baseC (fun _ => none) (fun _ => [])) (Go.Proofs.Tryd.f72.results.toList) 0 internal_strconv_isPowerOfTwo_i internal_strconv_isPowerOfTwo_o (fun v => internal_strconv_isPowerOfTwo v)
noncomputable def internal_strconv_isPowerOfTwo_z : Code := Option.getD Go.Proofs.Tryd.f72.body .skip
noncomputable def internal_strconv_isPowerOfTwo_x (gl : Glob) : TCtx := { baseC gl (lookS []) with inl := lookI [], fuel := 0, loops := lookL [], cuts := lookL [] }
theorem internal_strconv_isPowerOfTwo_v {gl : Glob} (hg : Gs gl) : ValidS Go.Proofs.Tryd.prog gl 72 internal_strconv_isPowerOfTwo_s := by
  refine validS_of (c := internal_strconv_isPowerOfTwo_x gl) ?_ hm_ Go.Proofs.Tryd.func72 (body := internal_strconv_isPowerOfTwo_z) ?_ ?_ ?_ ?_ ?_ ?_ ?_ ?_ ?_
  · exact tok_of tyB_ok cmpB_ok .nil .nil
  · kernel_rfl
  · rfl
  · exact annOK_by (l := []) (by kernel_rfl) (trivial)
  · exact fun v => Eq.symm (by kernel_rfl)
  · kernel_rfl
  · kernel_rfl
  · exact exitX_of (.cons (fun v => by kernel_rfl) .nil)
  · rfl
  · rfl
noncomputable def math_bits_TrailingZeros_i : Pat := ⟨[.b (.int .u64)], 8, [(0, .v)], []⟩
noncomputable def math_bits_TrailingZeros_o : Exits := [(.ret, ⟨[.b (.int .i64)], 8, [(2, .v)], []⟩)]
noncomputable def math_bits_TrailingZeros_s : TSum := TSum.of (baseC (fun _ => none) (fun _ => [])) (Go.Proofs.Tryd.f73.results.toList) 0 math_bits_TrailingZeros_i math_bits_TrailingZeros_o (fun v => math_bits_TrailingZeros v)
noncomputable def math_bits_TrailingZeros_z : Code := Option.getD Go.Proofs.Tryd.f73.body .skip
noncomputable def math_bits_TrailingZeros_x (gl : Glob) : TCtx := { baseC gl (lookS [(87, [bits_TrailingZeros64_s])]) with inl := lookI [], fuel := 0, loops := lookL [], cuts := lookL [] }
theorem math_bits_TrailingZeros_v {gl : Glob} (hg : Gs gl) : ValidS Go.Proofs.Tryd.prog gl 73 math_bits_TrailingZeros_s := by
  refine validS_of (c := math_bits_TrailingZeros_x gl) ?_ hm_ Go.Proofs.Tryd.func73 (body := math_bits_TrailingZeros_z) ?_ ?_ ?_ ?_ ?_ ?_ ?_ ?_ ?_
  · exact tok_of tyB_ok cmpB_ok (.cons (.cons (bits_TrailingZeros64_v hg) .nil) (hb_ 87 Go.Proofs.Tryd.func87 (by kernel_rfl) (by kernel_rfl)) .nil) .nil
  · kernel_rfl
  · rfl
  · exact annOK_by (l := []) (by kernel_rfl) (trivial)
  · exact fun v => Eq.symm (by kernel_rfl)
  · kernel_rfl
  · kernel_rfl
  · exact exitX_of (.cons (fun v => by kernel_rfl) .nil)
  · rfl
  · rfl
noncomputable def internal_strconv_formatBits_i : Pat := ⟨[.b (.int .u64)], 102, [(0, (.lit (.slice none 0 0))), (1, .v), (2, (.lit (.int .i64 16))), (3, (.lit (.bool false))), (4, (.lit (.bool false)))], []⟩
noncomputable def internal_strconv_formatBits_o : Exits := [(.ret, ⟨[.b .str, .r [.b (.int .u8)]], 102, [(10, (.own 5000)), (11, .v)], [⟨5000, 0, .row true 5 [.b (.int .u8)]⟩]⟩)]
noncomputable def internal_strconv_formatBits_s : TSum := TSum.of (baseC (fun _ => none) (fun _ => [])) (Go.Proofs.Tryd.f52.results.toList) 0 internal_strconv_formatBits_i internal_strconv_formatBits_o (fun v => internal_strconv_formatBits v)
noncomputable def internal_strconv_formatBits_z : Code := Option.getD Go.Proofs.Tryd.f52.body .skip
noncomputable def internal_strconv_formatBits_x (gl : Glob) : TCtx := { baseC gl (lookS [(72, [internal_strconv_isPowerOfTwo_s]), (73, [math_bits_TrailingZeros_s])]) with inl := lookI [], fuel := 6, loops := lookL [], cuts := lookL [] }
theorem internal_strconv_formatBits_v {gl : Glob} (hg : Gs gl) : ValidS Go.Proofs.Tryd.prog gl 52 internal_strconv_formatBits_s := by
  refine validS_of (c := internal_strconv_formatBits_x gl) ?_ hm_ Go.Proofs.Tryd.func52 (body := internal_strconv_formatBits_z) ?_ ?_ ?_ ?_ ?_ ?_ ?_ ?_ ?_
  · exact tok_of tyB_ok cmpB_ok (.cons (.cons (internal_strconv_isPowerOfTwo_v hg) .nil) (hb_ 72 Go.Proofs.Tryd.func72 (by kernel_rfl) (by kernel_rfl)) (.cons (.cons (math_bits_TrailingZeros_v hg) .nil) (hb_ 73 Go.Proofs.Tryd.func73 (by kernel_rfl) (by kernel_rfl)) .nil)) .nil
  · kernel_rfl
  · rfl
  · exact annOK_by (l := []) (by kernel_rfl) (trivial)
  · exact fun v => Eq.symm (by kernel_rfl)
  · kernel_rfl
  · kernel_rfl
  · exact exitX_of (.cons (fun v => by kernel_rfl) .nil)
  · rfl
  · rfl
noncomputable def internal_strconv_FormatUint_i : Pat := ⟨[.b (.int .u64)], 32, [(0, .v), (1, (.lit (.int .i64 16)))], []⟩
noncomputable def internal_strconv_FormatUint_o : Exits := [(.ret, ⟨[.b .str], 32, [(4, .v)], []⟩)]
noncomputable def internal_strconv_FormatUint_s : TSum := TSum.of (baseC (fun _ => none) (fun _ => [])) (Go.Proofs.Tryd.f30.results.toList) 0 internal_strconv_FormatUint_i internal_strconv_FormatUint_o (fun v => internal_strconv_FormatUint v)
noncomputable def internal_strconv_FormatUint_z : Code := Option.getD Go.Proofs.Tryd.f30.body .skip
noncomputable def internal_strconv_FormatUint_x (gl : Glob) : TCtx := { baseC gl (lookS [(52, [internal_strconv_formatBits_s])]) with inl := lookI [], fuel := 0, loops := lookL [], cuts := lookL [] }
theorem internal_strconv_FormatUint_v {gl : Glob} (hg : Gs gl) : ValidS Go.Proofs.Tryd.prog gl 30 internal_strconv_FormatUint_s := by
  refine validS_of (c := internal_strconv_FormatUint_x gl) ?_ hm_ Go.Proofs.Tryd.func30 (body := internal_strconv_FormatUint_z) ?_ ?_ ?_ ?_ ?_ ?_ ?_ ?_ ?_
  · exact tok_of tyB_ok cmpB_ok (.cons (.cons (internal_strconv_formatBits_v hg) .nil) (hb_ 52 Go.Proofs.Tryd.func52 (by kernel_rfl) (by kernel_rfl)) .nil) .nil
  · kernel_rfl
  · rfl
  · exact annOK_by (l := []) (by kernel_rfl) (trivial)
  · exact fun v => Eq.symm (by kernel_rfl)
  · kernel_rfl
  · kernel_rfl
  · exact exitX_of (.cons (fun v => by kernel_rfl) .nil)
  · rfl
  · rfl
noncomputable def strconv_FormatUint_i : Pat := ⟨[.b (.int .u64)], 8, [(0, .v), (1, (.lit (.int .i64 16)))], []⟩
noncomputable def strconv_FormatUint_o : Exits := [(.ret, ⟨[.b .str], 8, [(4, .v)], []⟩)]
noncomputable def strconv_FormatUint_s : TSum := TSum.of (baseC (fun _ => none) (fun _ => [])) (Go.Proofs.Tryd.f11.results.toList) 0 strconv_FormatUint_i strconv_FormatUint_o (fun v => strconv_FormatUint v)
noncomputable def strconv_FormatUint_z : Code := Option.getD Go.Proofs.Tryd.f11.body .skip
noncomputable def strconv_FormatUint_x (gl : Glob) : TCtx := { baseC gl (lookS [(30, [internal_strconv_FormatUint_s])]) with inl := lookI [], fuel := 0, loops := lookL [], cuts := lookL [] }
theorem strconv_FormatUint_v {gl : Glob} (hg : Gs gl) : ValidS Go.Proofs.Tryd.prog gl 11 strconv_FormatUint_s := by
  refine validS_of (c := strconv_FormatUint_x gl) ?_ hm_ Go.Proofs.Tryd.func11 (body := strconv_FormatUint_z) ?_ ?_ ?_ ?_ ?_ ?_ ?_ ?_ ?_
  · exact tok_of tyB_ok cmpB_ok (.cons (.cons (internal_strconv_FormatUint_v hg) .nil) (hb_ 30 Go.Proofs.Tryd.func30 (by kernel_rfl) (by kernel_rfl)) .nil) .nil
  · kernel_rfl
  · rfl
  · exact annOK_by (l := []) (by kernel_rfl) (trivial)
  · exact fun v => Eq.symm (by kernel_rfl)
  · kernel_rfl
  · kernel_rfl
  · exact exitX_of (.cons (fun v => by kernel_rfl) .nil)
  · rfl
  · rfl
noncomputable def chart_Points_l3 : Loop1 := ⟨⟨[.b (.int .i64), .b (.int .i64), .r [.b .str], .r [.b (.int .u32)]], 38, [(3, (.own 109)), (10, (.own 0)), (11, .v), (12, .v)], [⟨109, 0, .row true 9 [.b .str]⟩, ⟨0, 0, .row true 25 [.b (.int .u32)]⟩]⟩, [(.exit 0, ⟨[.r [.b .str], .r [.b (.int .u32)]], 38, [(3, (.own 109))], [⟨109, 0, .row true 9 [.b .str]⟩, ⟨0, 0, .row true 25 [.b (.int .u32)]⟩]⟩)], chart_Points_b3⟩
noncomputable def chart_Points_i : Pat := ⟨[.r [.b (.int .u32)]], 38, [(0, (.own 0))], [⟨0, 0, .row true 25 [.b (.int .u32)]⟩]⟩
noncomputable def chart_Points_o : Exits := [(.ret, ⟨[.b .str, .r [.b (.int .u32)]], 38, [(2, .v)], [⟨0, 0, .row true 25 [.b (.int .u32)]⟩]⟩)]
noncomputable def chart_Points_s : TSum := TSum.of (baseC (fun _ => none) (fun _ => [])) (Go.Proofs.Tryd.f5.results.toList) 1 chart_Points_i chart_Points_o (fun v => chart_Points v)
noncomputable def chart_Points_z : Code := Option.getD Go.Proofs.Tryd.f5.body .skip
noncomputable def chart_Points_x (gl : Glob) : TCtx := { baseC gl (lookS [(10, [strings_ToUpper_s]), (12, [strings_Repeat_s]), (13, [strings_Join_s]), (11, [strconv_FormatUint_s])]) with inl := lookI [], fuel := 0, loops := lookL [(3, chart_Points_l3)], cuts := lookL [] }
theorem chart_Points_v {gl : Glob} (hg : Gs gl) : ValidS Go.Proofs.Tryd.prog gl 5 chart_Points_s := by
  refine validS_of (c := chart_Points_x gl) ?_ hm_ Go.Proofs.Tryd.func5 (body := chart_Points_z) ?_ ?_ ?_ ?_ ?_ ?_ ?_ ?_ ?_
  · exact tok_of tyB_ok cmpB_ok (.cons (.cons (strings_ToUpper_v hg) .nil) (hb_ 10 Go.Proofs.Tryd.func10 (by kernel_rfl) (by kernel_rfl)) (.cons (.cons (strings_Repeat_v hg) .nil) (hb_ 12 Go.Proofs.Tryd.func12 (by kernel_rfl) (by kernel_rfl)) (.cons (.cons (strings_Join_v hg) .nil) (hb_ 13 Go.Proofs.Tryd.func13 (by kernel_rfl) (by kernel_rfl)) (.cons (.cons (strconv_FormatUint_v hg) .nil) (hb_ 11 Go.Proofs.Tryd.func11 (by kernel_rfl) (by kernel_rfl)) .nil)))) .nil
  · kernel_rfl
  · rfl
  · exact annOK_by (l := [∀ v, chart_Points_l3.body v = (roundT (chart_Points_x gl) chart_Points_l3.pat chart_Points_l3.exits (subAt [1, 1, 0, 1, 0, 0] chart_Points_z) v).run]) (by kernel_rfl) (⟨fun (a0, a1, a2, a3) => Eq.symm (by kernel_rfl), trivial⟩)
  · exact fun v => Eq.symm (by kernel_rfl)
  · kernel_rfl
  · kernel_rfl
  · exact exitX_of (.cons (fun v => by kernel_rfl) .nil)
  · rfl
  · rfl
noncomputable def law07_awake_i : Pat := ⟨[], 40, [], []⟩
noncomputable def law07_awake_o : Exits := [(.ret, ⟨[.b .bool], 40, [(0, .v)], []⟩)]
noncomputable def law07_awake_s : TSum := TSum.of (baseC (fun _ => none) (fun _ => [])) (Go.Proofs.Tryd.f4.results.toList) 0 law07_awake_i law07_awake_o (fun v => law07_awake )
noncomputable def law07_awake_z : Code := Option.getD Go.Proofs.Tryd.f4.body .skip
noncomputable def law07_awake_x (gl : Glob) : TCtx := { baseC gl (lookS [(9, [chart_Classes_s]), (5, [chart_Points_s])]) with inl := lookI [], fuel := 0, loops := lookL [], cuts := lookL [] }
theorem law07_awake_v {gl : Glob} (hg : Gs gl) : ValidS Go.Proofs.Tryd.prog gl 4 law07_awake_s := by
  refine validS_of (c := law07_awake_x gl) ?_ hm_ Go.Proofs.Tryd.func4 (body := law07_awake_z) ?_ ?_ ?_ ?_ ?_ ?_ ?_ ?_ ?_
  · exact tok_of tyB_ok cmpB_ok (.cons (.cons (chart_Classes_v hg) .nil) (hb_ 9 Go.Proofs.Tryd.func9 (by kernel_rfl) (by kernel_rfl)) (.cons (.cons (chart_Points_v hg) .nil) (hb_ 5 Go.Proofs.Tryd.func5 (by kernel_rfl) (by kernel_rfl)) .nil)) .nil
  · kernel_rfl
  · rfl
  · exact annOK_by (l := []) (by kernel_rfl) (trivial)
  · exact fun v => Eq.symm (by kernel_rfl)
  · kernel_rfl
  · kernel_rfl
  · exact exitX_of (.cons (fun v => by kernel_rfl) .nil)
  · rfl
  · rfl
end Go.Tx

namespace Go.Tx
open Go Go.Sx
end Go.Tx

namespace Go.Tx
open Go Go.Sx
end Go.Tx

namespace Go.Tx
open Go Go.Sx
end Go.Tx

namespace Go.Tx
open Go
end Go.Tx

namespace Go.Tx
open Go Go.Sx
noncomputable def law07_same_b4 : Int × Int × List (Int) × List (Int) → Option ((Int × Int × List (Int) × List (Int)) ⊕ ((Bool × List (Int) × List (Int)) ⊕ (List (Int) × List (Int)))) := fun
  | (t12, t13, l0, l1) =>
  if (decide (t13 < t12)) = true then
   if ((decide ((0 : Int) ≤ t13)) && (decide (t13 < ((l0.length : Nat) : Int)))) = true then
    if (decide (t13.toNat < l0.length)) = true then
     if ((decide ((0 : Int) ≤ t13)) && (decide (t13 < ((l1.length : Nat) : Int)))) = true then
      if (decide (t13.toNat < l1.length)) = true then
       if ((l0.getD t13.toNat (0 : Int)) != (l1.getD t13.toNat (0 : Int))) = true then
        some (.inr (.inl (false, (l0, l1))))
       else
        some (.inl (t12, ((Go.IntKind.wrap .i64 (t13 + (1 : Int))), (l0, l1))))
      else
       none
     else
      none
    else
     none
   else
    none
  else
   some (.inr (.inr (l0, l1)))
noncomputable def law07_same (l0 : List (Int)) (l1 : List (Int)) : Option ((Bool × List (Int) × List (Int))) :=
  if (((l0.length : Nat) : Int) != ((l1.length : Nat) : Int)) = true then
   some (false, (l0, l1))
  else
   ((Go.Sx.runLoop law07_same_b4 (((l0.length : Nat) : Int), ((0 : Int), (l0, l1))))).bind fun r0_0 =>
    match r0_0 with
    | .inl (r1_0, r1_1, r1_2) =>
     some (r1_0, (r1_1, r1_2))
    | .inr (r2_0, r2_1) =>
     some (true, (r2_0, r2_1))
end Go.Tx

namespace Go.Tx
open Go Go.Sx
end Go.Tx

namespace Go.Tx
open Go Go.Sx
end Go.Tx

namespace Go.Tx
open Go Go.Sx
end Go.Tx

namespace Go.Tx
open Go Go.Sx
noncomputable def law07_same_l4 : Loop1 := ⟨⟨[.b (.int .i64), .b (.int .i64), .r [.b (.int .u32)], .r [.b (.int .u32)]], 26, [(0, (.own 0)), (1, (.own 1)), (12, .v), (13, .v)], [⟨0, 0, .row false 25 [.b (.int .u32)]⟩, ⟨1, 0, .row false 25 [.b (.int .u32)]⟩]⟩, [(.ret, ⟨[.b .bool, .r [.b (.int .u32)], .r [.b (.int .u32)]], 26, [(4, .v)], [⟨0, 0, .row false 25 [.b (.int .u32)]⟩, ⟨1, 0, .row false 25 [.b (.int .u32)]⟩]⟩), (.exit 0, ⟨[.r [.b (.int .u32)], .r [.b (.int .u32)]], 26, [], [⟨0, 0, .row false 25 [.b (.int .u32)]⟩, ⟨1, 0, .row false 25 [.b (.int .u32)]⟩]⟩)], law07_same_b4⟩
noncomputable def law07_same_i : Pat := ⟨[.r [.b (.int .u32)], .r [.b (.int .u32)]], 26, [(0, (.own 0)), (1, (.own 1))], [⟨0, 0, .row false 25 [.b (.int .u32)]⟩, ⟨1, 0, .row false 25 [.b (.int .u32)]⟩]⟩
noncomputable def law07_same_o : Exits := [(.ret, ⟨[.b .bool, .r [.b (.int .u32)], .r [.b (.int .u32)]], 26, [(4, .v)], [⟨0, 0, .row false 25 [.b (.int .u32)]⟩, ⟨1, 0, .row false 25 [.b (.int .u32)]⟩]⟩)]
noncomputable def law07_same_s : TSum := TSum.of (baseC (fun _ => none) (fun _ => [])) (Go.Proofs.Tryd.f8.results.toList) 2 law07_same_i law07_same_o (fun v => law07_same v.1 v.2)
noncomputable def law07_same_z : Code := Option.getD Go.Proofs.Tryd.f8.body .skip
noncomputable def law07_same_x (gl : Glob) : TCtx := { baseC gl (lookS []) with inl := lookI [], fuel := 0, loops := lookL [(4, law07_same_l4)], cuts := lookL [] }
theorem law07_same_v {gl : Glob} (hg : Gs gl) : ValidS Go.Proofs.Tryd.prog gl 8 law07_same_s := by
  refine validS_of (c := law07_same_x gl) ?_ hm_ Go.Proofs.Tryd.func8 (body := law07_same_z) ?_ ?_ ?_ ?_ ?_ ?_ ?_ ?_ ?_
  · exact tok_of tyB_ok cmpB_ok .nil .nil
  · kernel_rfl
  · rfl
  · exact annOK_by (l := [∀ v, law07_same_l4.body v = (roundT (law07_same_x gl) law07_same_l4.pat law07_same_l4.exits (subAt [1, 1, 0, 1, 0, 0] law07_same_z) v).run]) (by kernel_rfl) (⟨fun (a0, a1, a2, a3) => Eq.symm (by kernel_rfl), trivial⟩)
  · exact fun (a0, a1) => Eq.symm (by kernel_rfl)
  · kernel_rfl
  · kernel_rfl
  · exact exitX_of (.cons (fun v => by kernel_rfl) .nil)
  · rfl
  · rfl
end Go.Tx

namespace Go.Tx
open Go Go.Sx
noncomputable def chart_Points_i2_b3 : Int × Int × List (ByteArray) × List (Int) → Option ((Int × Int × List (ByteArray) × List (Int)) ⊕ ((List (ByteArray) × List (Int)))) := fun
  | (t11, t12, l109, l0) =>
  if (decide (t12 < t11)) = true then
   if ((decide ((0 : Int) ≤ t12)) && (decide (t12 < ((l0.length : Nat) : Int)))) = true then
    if (decide (t12.toNat < l0.length)) = true then
     if (decide ((l0.getD t12.toNat (0 : Int)) > (1114111 : Int))) = true then
      if (decide (((l109.length + 1) * 16) ≤ 140737488355328)) = true then
       some (.inl (t11, ((Go.IntKind.wrap .i64 (t12 + (1 : Int))), ((l109 ++ [(ByteArray.mk (List.toArray [(63 : UInt8)]))]), l0))))
      else
       none
     else
      ((Go.Tx.strconv_FormatUint (Go.IntKind.wrap .u64 (l0.getD t12.toNat (0 : Int))))).bind fun r0_0 =>
       ((Go.Tx.strings_ToUpper r0_0)).bind fun r1_0 =>
        ((Go.Tx.strings_Repeat (ByteArray.mk (List.toArray [(48 : UInt8)])) (if ((0 : Int) > (Go.IntKind.wrap .i64 ((4 : Int) - ((r1_0.size : Nat) : Int)))) then (0 : Int) else (Go.IntKind.wrap .i64 ((4 : Int) - ((r1_0.size : Nat) : Int)))))).bind fun r2_0 =>
         if (decide ((r2_0.size + r1_0.size) ≤ 9223372036854775807)) = true then
          if (decide (((l109.length + [(ByteArray.append r2_0 r1_0)].length) * 16) ≤ 140737488355328)) = true then
           some (.inl (t11, ((Go.IntKind.wrap .i64 (t12 + (1 : Int))), ((l109 ++ [(ByteArray.append r2_0 r1_0)]), l0))))
          else
           none
         else
          none
    else
     none
   else
    none
  else
   some (.inr (l109, l0))
noncomputable def chart_Points_i2 (l0 : List (Int)) : Option ((ByteArray × List (Int))) :=
  if ((decide ((0 : Int) ≤ ((l0.length : Nat) : Int))) && (decide (((16 : Int) * ((l0.length : Nat) : Int)) ≤ (140737488355328 : Int)))) = true then
   ((Go.Sx.runLoop chart_Points_i2_b3 (((l0.length : Nat) : Int), ((0 : Int), ((List.replicate 0 ByteArray.empty), l0))))).bind fun (r0_0, r0_1) =>
    ((Go.Tx.strings_Join (ByteArray.mk (List.toArray [(32 : UInt8)])) r0_0)).bind fun r1_0 =>
     some (r1_0, r0_1)
  else
   none
noncomputable def ref07_Points_b11 : ByteArray × Int × ByteArray × Int × List (Int) → Option ((ByteArray × Int × ByteArray × Int × List (Int)) ⊕ ((ByteArray × Int × ByteArray × List (Int)))) := fun
  | (out3, i4, s5, n6, l0) =>
  if (decide (n6 > (0 : Int))) = true then
   if (((decide ((0 : Int) ≤ (Int.tmod n6 (16 : Int)))) && (decide ((Int.tmod n6 (16 : Int)) ≤ (Go.IntKind.wrap .u32 ((Int.tmod n6 (16 : Int)) + (1 : Int)))))) && (decide ((Go.IntKind.wrap .u32 ((Int.tmod n6 (16 : Int)) + (1 : Int))) ≤ (16 : Int)))) = true then
    if (decide (((ByteArray.extract (ByteArray.mk (List.toArray [(48 : UInt8), (49 : UInt8), (50 : UInt8), (51 : UInt8), (52 : UInt8), (53 : UInt8), (54 : UInt8), (55 : UInt8), (56 : UInt8), (57 : UInt8), (65 : UInt8), (66 : UInt8), (67 : UInt8), (68 : UInt8), (69 : UInt8), (70 : UInt8)])) (Int.tmod n6 (16 : Int)).toNat (Go.IntKind.wrap .u32 ((Int.tmod n6 (16 : Int)) + (1 : Int))).toNat).size + s5.size) ≤ 9223372036854775807)) = true then
     some (.inl (out3, (i4, ((ByteArray.append (ByteArray.extract (ByteArray.mk (List.toArray [(48 : UInt8), (49 : UInt8), (50 : UInt8), (51 : UInt8), (52 : UInt8), (53 : UInt8), (54 : UInt8), (55 : UInt8), (56 : UInt8), (57 : UInt8), (65 : UInt8), (66 : UInt8), (67 : UInt8), (68 : UInt8), (69 : UInt8), (70 : UInt8)])) (Int.tmod n6 (16 : Int)).toNat (Go.IntKind.wrap .u32 ((Int.tmod n6 (16 : Int)) + (1 : Int))).toNat) s5), ((Go.IntKind.wrap .u32 (Int.tdiv n6 (16 : Int))), l0)))))
    else
     none
   else
    none
  else
   if (decide (((s5.size : Nat) : Int) < (4 : Int))) = true then
    if (((decide ((0 : Int) ≤ (Int.tmod n6 (16 : Int)))) && (decide ((Int.tmod n6 (16 : Int)) ≤ (Go.IntKind.wrap .u32 ((Int.tmod n6 (16 : Int)) + (1 : Int)))))) && (decide ((Go.IntKind.wrap .u32 ((Int.tmod n6 (16 : Int)) + (1 : Int))) ≤ (16 : Int)))) = true then
     if (decide (((ByteArray.extract (ByteArray.mk (List.toArray [(48 : UInt8), (49 : UInt8), (50 : UInt8), (51 : UInt8), (52 : UInt8), (53 : UInt8), (54 : UInt8), (55 : UInt8), (56 : UInt8), (57 : UInt8), (65 : UInt8), (66 : UInt8), (67 : UInt8), (68 : UInt8), (69 : UInt8), (70 : UInt8)])) (Int.tmod n6 (16 : Int)).toNat (Go.IntKind.wrap .u32 ((Int.tmod n6 (16 : Int)) + (1 : Int))).toNat).size + s5.size) ≤ 9223372036854775807)) = true then
      some (.inl (out3, (i4, ((ByteArray.append (ByteArray.extract (ByteArray.mk (List.toArray [(48 : UInt8), (49 : UInt8), (50 : UInt8), (51 : UInt8), (52 : UInt8), (53 : UInt8), (54 : UInt8), (55 : UInt8), (56 : UInt8), (57 : UInt8), (65 : UInt8), (66 : UInt8), (67 : UInt8), (68 : UInt8), (69 : UInt8), (70 : UInt8)])) (Int.tmod n6 (16 : Int)).toNat (Go.IntKind.wrap .u32 ((Int.tmod n6 (16 : Int)) + (1 : Int))).toNat) s5), ((Go.IntKind.wrap .u32 (Int.tdiv n6 (16 : Int))), l0)))))
     else
      none
    else
     none
   else
    some (.inr (out3, (i4, (s5, l0))))
noncomputable def ref07_Points_b3 : ByteArray × Int × List (Int) → Option ((ByteArray × Int × List (Int)) ⊕ ((ByteArray × List (Int)))) := fun
  | (out3, i4, l0) =>
  if (decide (i4 < ((l0.length : Nat) : Int))) = true then
   if (decide (i4 > (0 : Int))) = true then
    if (decide ((out3.size + 1) ≤ 9223372036854775807)) = true then
     if ((decide ((0 : Int) ≤ i4)) && (decide (i4 < ((l0.length : Nat) : Int)))) = true then
      if (decide (i4.toNat < l0.length)) = true then
       if (decide ((l0.getD i4.toNat (0 : Int)) > (1114111 : Int))) = true then
        if (decide (((ByteArray.append out3 (ByteArray.mk (List.toArray [(32 : UInt8)]))).size + 1) ≤ 9223372036854775807)) = true then
         some (.inl ((ByteArray.append (ByteArray.append out3 (ByteArray.mk (List.toArray [(32 : UInt8)]))) (ByteArray.mk (List.toArray [(63 : UInt8)]))), ((Go.IntKind.wrap .i64 (i4 + (1 : Int))), l0)))
        else
         none
       else
        if ((decide ((0 : Int) ≤ i4)) && (decide (i4 < ((l0.length : Nat) : Int)))) = true then
         if (decide (i4.toNat < l0.length)) = true then
          ((Go.Sx.runLoop ref07_Points_b11 ((ByteArray.append out3 (ByteArray.mk (List.toArray [(32 : UInt8)]))), (i4, ((ByteArray.mk (List.toArray [])), ((l0.getD i4.toNat (0 : Int)), l0)))))).bind fun (r0_0, r0_1, r0_2, r0_3) =>
           if (decide ((r0_0.size + r0_2.size) ≤ 9223372036854775807)) = true then
            some (.inl ((ByteArray.append r0_0 r0_2), ((Go.IntKind.wrap .i64 (r0_1 + (1 : Int))), r0_3)))
           else
            none
         else
          none
        else
         none
      else
       none
     else
      none
    else
     none
   else
    if ((decide ((0 : Int) ≤ i4)) && (decide (i4 < ((l0.length : Nat) : Int)))) = true then
     if (decide (i4.toNat < l0.length)) = true then
      if (decide ((l0.getD i4.toNat (0 : Int)) > (1114111 : Int))) = true then
       if (decide ((out3.size + 1) ≤ 9223372036854775807)) = true then
        some (.inl ((ByteArray.append out3 (ByteArray.mk (List.toArray [(63 : UInt8)]))), ((Go.IntKind.wrap .i64 (i4 + (1 : Int))), l0)))
       else
        none
      else
       if ((decide ((0 : Int) ≤ i4)) && (decide (i4 < ((l0.length : Nat) : Int)))) = true then
        if (decide (i4.toNat < l0.length)) = true then
         ((Go.Sx.runLoop ref07_Points_b11 (out3, (i4, ((ByteArray.mk (List.toArray [])), ((l0.getD i4.toNat (0 : Int)), l0)))))).bind fun (r1_0, r1_1, r1_2, r1_3) =>
          if (decide ((r1_0.size + r1_2.size) ≤ 9223372036854775807)) = true then
           some (.inl ((ByteArray.append r1_0 r1_2), ((Go.IntKind.wrap .i64 (r1_1 + (1 : Int))), r1_3)))
          else
           none
        else
         none
       else
        none
     else
      none
    else
     none
  else
   some (.inr (out3, l0))
noncomputable def ref07_Points (l0 : List (Int)) : Option ((ByteArray × List (Int))) :=
  ((Go.Sx.runLoop ref07_Points_b3 ((ByteArray.mk (List.toArray [])), ((0 : Int), l0)))).bind fun (r0_0, r0_1) =>
   some (r0_0, r0_1)
noncomputable def law07_ChartPoints_b12 : ByteArray × Bool × Int × Int × List (Int) → Option ((ByteArray × Bool × Int × Int × List (Int)) ⊕ ((ByteArray × Bool × List (Int)))) := fun
  | (s3, ok4, t30, t31, l0) =>
  if (decide (t31 < t30)) = true then
   if ((decide ((0 : Int) ≤ t31)) && (decide (t31 < ((l0.length : Nat) : Int)))) = true then
    if (decide (t31.toNat < l0.length)) = true then
     if ok4 = true then
      some (.inl (s3, ((decide ((l0.getD t31.toNat (0 : Int)) ≤ (1114111 : Int))), (t30, ((Go.IntKind.wrap .i64 (t31 + (1 : Int))), l0)))))
     else
      some (.inl (s3, (false, (t30, ((Go.IntKind.wrap .i64 (t31 + (1 : Int))), l0)))))
    else
     none
   else
    none
  else
   some (.inr (s3, (ok4, l0)))
noncomputable def law07_ChartPoints (l0 : List (Int)) : Option ((Bool × List (Int))) :=
  (Go.Tx.law07_awake).bind fun r0_0 =>
   if (!r0_0) = true then
    some (false, l0)
   else
    if (decide (((l0.length : Nat) : Int) > (60 : Int))) = true then
     some (true, l0)
    else
     ((Go.Tx.chart_Points_i2 l0)).bind fun (r1_0, r1_1) =>
      ((Go.Tx.ref07_Points r1_1)).bind fun (r2_0, r2_1) =>
       if (!(List.beq (ByteArray.toList r1_0) (ByteArray.toList r2_0))) = true then
        some (false, r2_1)
       else
        if (decide (((r2_1.length : Nat) : Int) = (0 : Int))) = true then
         some (true, r2_1)
        else
         if (decide (((r2_1.length : Nat) : Int) > (3 : Int))) = true then
          some (true, r2_1)
         else
          ((Go.Sx.runLoop law07_ChartPoints_b12 (r1_0, (true, (((r2_1.length : Nat) : Int), ((0 : Int), r2_1)))))).bind fun (r3_0, r3_1, r3_2) =>
           if (decide ((7 + r3_0.size) ≤ 9223372036854775807)) = true then
            ((Go.Tx.chart_Decomps (ByteArray.append (ByteArray.mk (List.toArray [(48 : UInt8), (48 : UInt8), (52 : UInt8), (49 : UInt8), (32 : UInt8), (61 : UInt8), (32 : UInt8)])) r3_0))).bind fun (r4_0, r4_1, r4_2) =>
             if (decide ((decide (r4_0 = (0 : Int))) = r3_1)) = true then
              if (!r3_1) = true then
               some (true, r3_2)
              else
               if (decide (((r4_2.length : Nat) : Int) = (1 : Int))) = true then
                if (decide ((0 : Int) < ((r4_2.length : Nat) : Int))) = true then
                 if (decide (0 < r4_2.length)) = true then
                  ((Go.Tx.law07_same (r4_2.getD 0 ((0 : Int), ([], (false, false)))).2.1 r3_2)).bind fun (r5_0, r5_1, r5_2) =>
                   some (r5_0, r5_2)
                 else
                  none
                else
                 none
               else
                some (false, r3_2)
             else
              some (false, r3_2)
           else
            none
end Go.Tx

namespace Go.Tx
open Go Go.Sx
noncomputable def chart_Points_i2_l3 : Loop1 := ⟨⟨[.b (.int .i64), .b (.int .i64), .r [.b .str], .r [.b (.int .u32)]], 38, [(3, (.own 109)), (10, (.own 0)), (11, .v), (12, .v)], [⟨109, 0, .row true 9 [.b .str]⟩, ⟨0, 0, .row false 25 [.b (.int .u32)]⟩]⟩, [(.exit 0, ⟨[.r [.b .str], .r [.b (.int .u32)]], 38, [(3, (.own 109))], [⟨109, 0, .row true 9 [.b .str]⟩, ⟨0, 0, .row false 25 [.b (.int .u32)]⟩]⟩)], chart_Points_i2_b3⟩
noncomputable def chart_Points_i2_i : Pat := ⟨[.r [.b (.int .u32)]], 38, [(0, (.own 0))], [⟨0, 0, .row false 25 [.b (.int .u32)]⟩]⟩
noncomputable def chart_Points_i2_o : Exits := [(.ret, ⟨[.b .str, .r [.b (.int .u32)]], 38, [(2, .v)], [⟨0, 0, .row false 25 [.b (.int .u32)]⟩]⟩)]
noncomputable def chart_Points_i2_s : TSum := TSum.of (baseC (fun _ => none) (fun _ => [])) (Go.Proofs.Tryd.f5.results.toList) 1 chart_Points_i2_i chart_Points_i2_o (fun v => chart_Points_i2 v)
noncomputable def chart_Points_i2_z : Code := Option.getD Go.Proofs.Tryd.f5.body .skip
noncomputable def chart_Points_i2_x (gl : Glob) : TCtx := { baseC gl (lookS [(10, [strings_ToUpper_s]), (12, [strings_Repeat_s]), (13, [strings_Join_s]), (11, [strconv_FormatUint_s])]) with inl := lookI [], fuel := 0, loops := lookL [(3, chart_Points_i2_l3)], cuts := lookL [] }
theorem chart_Points_i2_v {gl : Glob} (hg : Gs gl) : ValidS Go.Proofs.Tryd.prog gl 5 chart_Points_i2_s := by
  refine validS_of (c := chart_Points_i2_x gl) ?_ hm_ Go.Proofs.Tryd.func5 (body := chart_Points_i2_z) ?_ ?_ ?_ ?_ ?_ ?_ ?_ ?_ ?_
  · exact tok_of tyB_ok cmpB_ok (.cons (.cons (strings_ToUpper_v hg) .nil) (hb_ 10 Go.Proofs.Tryd.func10 (by kernel_rfl) (by kernel_rfl)) (.cons (.cons (strings_Repeat_v hg) .nil) (hb_ 12 Go.Proofs.Tryd.func12 (by kernel_rfl) (by kernel_rfl)) (.cons (.cons (strings_Join_v hg) .nil) (hb_ 13 Go.Proofs.Tryd.func13 (by kernel_rfl) (by kernel_rfl)) (.cons (.cons (strconv_FormatUint_v hg) .nil) (hb_ 11 Go.Proofs.Tryd.func11 (by kernel_rfl) (by kernel_rfl)) .nil)))) .nil
  · kernel_rfl
  · rfl
  · exact annOK_by (l := [∀ v, chart_Points_i2_l3.body v = (roundT (chart_Points_i2_x gl) chart_Points_i2_l3.pat chart_Points_i2_l3.exits (subAt [1, 1, 0, 1, 0, 0] chart_Points_i2_z) v).run]) (by kernel_rfl) (⟨fun (a0, a1, a2, a3) => Eq.symm (by kernel_rfl), trivial⟩)
  · exact fun v => Eq.symm (by kernel_rfl)
  · kernel_rfl
  · kernel_rfl
  · exact exitX_of (.cons (fun v => by kernel_rfl) .nil)
  · rfl
  · rfl
noncomputable def ref07_Points_l3 : Loop1 := ⟨⟨[.b .str, .b (.int .i64), .r [.b (.int .u32)]], 50, [(0, (.own 0)), (3, .v), (4, .v)], [⟨0, 0, .row false 25 [.b (.int .u32)]⟩]⟩, [(.exit 0, ⟨[.b .str, .r [.b (.int .u32)]], 50, [(3, .v)], [⟨0, 0, .row false 25 [.b (.int .u32)]⟩]⟩)], ref07_Points_b3⟩
noncomputable def ref07_Points_l11 : Loop1 := ⟨⟨[.b .str, .b (.int .i64), .b .str, .b (.int .u32), .r [.b (.int .u32)]], 50, [(0, (.own 0)), (3, .v), (4, .v), (5, .v), (6, .v)], [⟨0, 0, .row false 25 [.b (.int .u32)]⟩]⟩, [(.exit 2, ⟨[.b .str, .b (.int .i64), .b .str, .r [.b (.int .u32)]], 50, [(0, (.own 0)), (3, .v), (4, .v), (5, .v)], [⟨0, 0, .row false 25 [.b (.int .u32)]⟩]⟩)], ref07_Points_b11⟩
noncomputable def ref07_Points_i : Pat := ⟨[.r [.b (.int .u32)]], 50, [(0, (.own 0))], [⟨0, 0, .row false 25 [.b (.int .u32)]⟩]⟩
noncomputable def ref07_Points_o : Exits := [(.ret, ⟨[.b .str, .r [.b (.int .u32)]], 50, [(2, .v)], [⟨0, 0, .row false 25 [.b (.int .u32)]⟩]⟩)]
noncomputable def ref07_Points_s : TSum := TSum.of (baseC (fun _ => none) (fun _ => [])) (Go.Proofs.Tryd.f6.results.toList) 1 ref07_Points_i ref07_Points_o (fun v => ref07_Points v)
noncomputable def ref07_Points_z : Code := Option.getD Go.Proofs.Tryd.f6.body .skip
noncomputable def ref07_Points_x (gl : Glob) : TCtx := { baseC gl (lookS []) with inl := lookI [], fuel := 0, loops := lookL [(3, ref07_Points_l3), (11, ref07_Points_l11)], cuts := lookL [] }
theorem ref07_Points_v {gl : Glob} (hg : Gs gl) : ValidS Go.Proofs.Tryd.prog gl 6 ref07_Points_s := by
  refine validS_of (c := ref07_Points_x gl) ?_ hm_ Go.Proofs.Tryd.func6 (body := ref07_Points_z) ?_ ?_ ?_ ?_ ?_ ?_ ?_ ?_ ?_
  · exact tok_of tyB_ok cmpB_ok .nil .nil
  · kernel_rfl
  · rfl
  · exact annOK_by (l := [∀ v, ref07_Points_l11.body v = (roundT (ref07_Points_x gl) ref07_Points_l11.pat ref07_Points_l11.exits (subAt [1, 1, 0, 1, 0, 0, 1, 0, 0, 1, 1, 1, 1, 0, 0, 0] ref07_Points_z) v).run, ∀ v, ref07_Points_l3.body v = (roundT (ref07_Points_x gl) ref07_Points_l3.pat ref07_Points_l3.exits (subAt [1, 1, 0, 1, 0, 0] ref07_Points_z) v).run]) (by kernel_rfl) (⟨fun (a0, a1, a2, a3, a4) => Eq.symm (by kernel_rfl), fun (a0, a1, a2) => Eq.symm (by kernel_rfl), trivial⟩)
  · exact fun v => Eq.symm (by kernel_rfl)
  · kernel_rfl
  · kernel_rfl
  · exact exitX_of (.cons (fun v => by kernel_rfl) .nil)
  · rfl
  · rfl
noncomputable def law07_ChartPoints_l12 : Loop1 := ⟨⟨[.b .str, .b .bool, .b (.int .i64), .b (.int .i64), .r [.b (.int .u32)]], 69, [(0, (.own 0)), (3, .v), (4, .v), (29, (.own 0)), (30, .v), (31, .v)], [⟨0, 0, .row false 25 [.b (.int .u32)]⟩]⟩, [(.exit 0, ⟨[.b .str, .b .bool, .r [.b (.int .u32)]], 69, [(0, (.own 0)), (3, .v), (4, .v)], [⟨0, 0, .row false 25 [.b (.int .u32)]⟩]⟩)], law07_ChartPoints_b12⟩
noncomputable def law07_ChartPoints_i : Pat := ⟨[.r [.b (.int .u32)]], 69, [(0, (.own 0))], [⟨0, 0, .row false 25 [.b (.int .u32)]⟩]⟩
noncomputable def law07_ChartPoints_o : Exits := [(.ret, ⟨[.b .bool, .r [.b (.int .u32)]], 69, [(2, .v)], [⟨0, 0, .row false 25 [.b (.int .u32)]⟩]⟩)]
noncomputable def law07_ChartPoints_s : TSum := TSum.of (baseC (fun _ => none) (fun _ => [])) (Go.Proofs.Tryd.f3.results.toList) 1 law07_ChartPoints_i law07_ChartPoints_o (fun v => law07_ChartPoints v)
noncomputable def law07_ChartPoints_z : Code := Option.getD Go.Proofs.Tryd.f3.body .skip
noncomputable def law07_ChartPoints_x (gl : Glob) : TCtx := { baseC gl (lookS [(7, [chart_Decomps_s]), (4, [law07_awake_s]), (8, [law07_same_s]), (5, [chart_Points_i2_s]), (6, [ref07_Points_s])]) with inl := lookI [], fuel := 0, loops := lookL [(12, law07_ChartPoints_l12)], cuts := lookL [] }
theorem law07_ChartPoints_v {gl : Glob} (hg : Gs gl) : ValidS Go.Proofs.Tryd.prog gl 3 law07_ChartPoints_s := by
  refine validS_of (c := law07_ChartPoints_x gl) ?_ hm_ Go.Proofs.Tryd.func3 (body := law07_ChartPoints_z) ?_ ?_ ?_ ?_ ?_ ?_ ?_ ?_ ?_
  · exact tok_of tyB_ok cmpB_ok (.cons (.cons (chart_Decomps_v hg) .nil) (hb_ 7 Go.Proofs.Tryd.func7 (by kernel_rfl) (by kernel_rfl)) (.cons (.cons (law07_awake_v hg) .nil) (hb_ 4 Go.Proofs.Tryd.func4 (by kernel_rfl) (by kernel_rfl)) (.cons (.cons (law07_same_v hg) .nil) (hb_ 8 Go.Proofs.Tryd.func8 (by kernel_rfl) (by kernel_rfl)) (.cons (.cons (chart_Points_i2_v hg) .nil) (hb_ 5 Go.Proofs.Tryd.func5 (by kernel_rfl) (by kernel_rfl)) (.cons (.cons (ref07_Points_v hg) .nil) (hb_ 6 Go.Proofs.Tryd.func6 (by kernel_rfl) (by kernel_rfl)) .nil))))) .nil
  · kernel_rfl
  · rfl
  · exact annOK_by (l := [∀ v, law07_ChartPoints_l12.body v = (roundT (law07_ChartPoints_x gl) law07_ChartPoints_l12.pat law07_ChartPoints_l12.exits (subAt [1, 1, 1, 1, 1, 1, 1, 0, 1, 0, 0] law07_ChartPoints_z) v).run]) (by kernel_rfl) (⟨fun (a0, a1, a2, a3, a4) => Eq.symm (by kernel_rfl), trivial⟩)
  · exact fun v => Eq.symm (by kernel_rfl)
  · kernel_rfl
  · kernel_rfl
  · exact exitX_of (.cons (fun v => by kernel_rfl) .nil)
  · rfl
  · rfl
end Go.Tx
