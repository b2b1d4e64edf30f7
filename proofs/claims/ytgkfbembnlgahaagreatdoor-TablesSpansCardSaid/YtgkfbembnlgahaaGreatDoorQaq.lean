/- Part 17 of the proof of the statement that the last part names; it asks for no condition of its own. Here: GenChB. -/
import Derived.Test.YtgkfbembnlgahaaGreatDoorQag
import Derived.Test.YtgkfbembnlgahaaGreatDoorQao
set_option linter.all false
set_option linter.unusedVariables false
set_option maxRecDepth 100000
set_option maxHeartbeats 0
namespace Go.Tx
open Go Go.Sx
noncomputable def chart_cutLeft_l2 : Loop1 := ⟨⟨[.b .str, .b .str, .b .str, .n], 32, [(0, .v), (1, .v), (11, (.ptr 111 0))], [⟨111, 0, .str⟩]⟩, [(.exit 0, ⟨[], 32, [], []⟩), (.ret, ⟨[.b .str], 32, [(4, .v)], []⟩)], chart_cutLeft_b2⟩
noncomputable def chart_cutLeft_l6 : Loop1 := ⟨⟨[.b .str, .b .str, .b (.int .i64), .b (.int .i32), .b .bool, .b .str, .n, .b .str, .n], 32, [(0, .v), (1, .v), (5, .v), (6, .v), (7, .v), (11, (.ptr 111 0)), (17, (.ptr 117 0))], [⟨111, 0, .str⟩, ⟨117, 0, .str⟩]⟩, [(.exit 2, ⟨[.b .str, .b .str, .b (.int .i64), .b .bool, .b .str, .n], 32, [(0, .v), (1, .v), (5, .v), (7, .v), (11, (.ptr 111 0))], [⟨111, 0, .str⟩]⟩)], chart_cutLeft_b6⟩
noncomputable def chart_cutLeft_i : Pat := ⟨[.b .str, .b .str], 32, [(0, .v), (1, .v)], []⟩
noncomputable def chart_cutLeft_o : Exits := [(.ret, ⟨[.b .str], 32, [(4, .v)], []⟩)]
noncomputable def chart_cutLeft_s : TSum := TSum.of (baseC (fun _ => none) (fun _ => [])) (Go.Proofs.Tryz.f162.results.toList) 0 chart_cutLeft_i chart_cutLeft_o (fun v => chart_cutLeft v.1 v.2)
noncomputable def chart_cutLeft_z : Code := Option.getD Go.Proofs.Tryz.f162.body .skip
noncomputable def chart_cutLeft_x (gl : Glob) : TCtx := { baseC gl (lookS []) with inl := lookI [], fuel := 0, loops := lookL [(2, chart_cutLeft_l2), (6, chart_cutLeft_l6)], cuts := lookL [] }
theorem chart_cutLeft_v {gl : Glob} (hg : Gs gl) : ValidS Go.Proofs.Tryz.prog gl 162 chart_cutLeft_s := by
  refine validS_of (c := chart_cutLeft_x gl) ?_ hm_ Go.Proofs.Tryz.func162 (body := chart_cutLeft_z) ?_ ?_ ?_ ?_ ?_ ?_ ?_ ?_ ?_
  · exact tok_of tyB_ok cmpB_ok .nil .nil
  · kernel_rfl
  · rfl
  · exact annOK_by (l := [∀ v, chart_cutLeft_l6.body v = (roundT (chart_cutLeft_x gl) chart_cutLeft_l6.pat chart_cutLeft_l6.exits (subAt [1, 0, 1, 0, 0, 1, 1, 0, 1, 1, 0, 1, 0, 0] chart_cutLeft_z) v).run, ∀ v, chart_cutLeft_l2.body v = (roundT (chart_cutLeft_x gl) chart_cutLeft_l2.pat chart_cutLeft_l2.exits (subAt [1, 0, 1, 0, 0] chart_cutLeft_z) v).run]) (by kernel_rfl) (⟨fun (a0, a1, a2, a3, a4, a5, a6, a7, a8) => Eq.symm (by kernel_rfl), fun (a0, a1, a2, a3) => Eq.symm (by kernel_rfl), trivial⟩)
  · exact fun (a0, a1) => Eq.symm (by kernel_rfl)
  · kernel_rfl
  · kernel_rfl
  · exact exitX_of (.cons (fun v => by kernel_rfl) .nil)
  · rfl
  · rfl
noncomputable def chart_cutRight_l1 : Loop1 := ⟨⟨[.b .str, .b .str], 39, [(0, .v), (1, .v)], []⟩, [(.exit 0, ⟨[.b .str], 39, [(0, .v)], []⟩), (.ret, ⟨[.b .str], 39, [(4, .v)], []⟩)], chart_cutRight_b1⟩
noncomputable def chart_cutRight_l5 : Loop1 := ⟨⟨[.b .str, .b .str, .b (.int .i32), .b (.int .i64), .b .bool, .b .str, .n], 39, [(0, .v), (1, .v), (5, .v), (6, .v), (7, .v), (19, (.ptr 119 0))], [⟨119, 0, .str⟩]⟩, [(.exit 2, ⟨[.b .str, .b .str, .b (.int .i64), .b .bool], 39, [(0, .v), (1, .v), (6, .v), (7, .v)], []⟩)], chart_cutRight_b5⟩
noncomputable def chart_cutRight_i : Pat := ⟨[.b .str, .b .str], 39, [(0, .v), (1, .v)], []⟩
noncomputable def chart_cutRight_o : Exits := [(.ret, ⟨[.b .str], 39, [(4, .v)], []⟩)]
noncomputable def chart_cutRight_s : TSum := TSum.of (baseC (fun _ => none) (fun _ => [])) (Go.Proofs.Tryz.f161.results.toList) 0 chart_cutRight_i chart_cutRight_o (fun v => chart_cutRight v.1 v.2)
noncomputable def chart_cutRight_z : Code := Option.getD Go.Proofs.Tryz.f161.body .skip
noncomputable def chart_cutRight_x (gl : Glob) : TCtx := { baseC gl (lookS [(202, [utf8_DecodeLastRuneInString_s])]) with inl := lookI [], fuel := 0, loops := lookL [(1, chart_cutRight_l1), (5, chart_cutRight_l5)], cuts := lookL [] }
theorem chart_cutRight_v {gl : Glob} (hg : Gs gl) : ValidS Go.Proofs.Tryz.prog gl 161 chart_cutRight_s := by
  refine validS_of (c := chart_cutRight_x gl) ?_ hm_ Go.Proofs.Tryz.func161 (body := chart_cutRight_z) ?_ ?_ ?_ ?_ ?_ ?_ ?_ ?_ ?_
  · exact tok_of tyB_ok cmpB_ok (.cons (.cons (utf8_DecodeLastRuneInString_v hg) .nil) (hb_ 202 Go.Proofs.Tryz.func202 (by kernel_rfl) (by kernel_rfl)) .nil) .nil
  · kernel_rfl
  · rfl
  · exact annOK_by (l := [∀ v, chart_cutRight_l5.body v = (roundT (chart_cutRight_x gl) chart_cutRight_l5.pat chart_cutRight_l5.exits (subAt [1, 0, 0, 0, 1, 0, 1, 1, 0, 1, 0, 0] chart_cutRight_z) v).run, ∀ v, chart_cutRight_l1.body v = (roundT (chart_cutRight_x gl) chart_cutRight_l1.pat chart_cutRight_l1.exits (subAt [1, 0, 0, 0] chart_cutRight_z) v).run]) (by kernel_rfl) (⟨fun (a0, a1, a2, a3, a4, a5, a6) => Eq.symm (by kernel_rfl), fun (a0, a1) => Eq.symm (by kernel_rfl), trivial⟩)
  · exact fun (a0, a1) => Eq.symm (by kernel_rfl)
  · kernel_rfl
  · kernel_rfl
  · exact exitX_of (.cons (fun v => by kernel_rfl) .nil)
  · rfl
  · rfl
noncomputable def chart_made_i : Pat := ⟨[.b .str, .b .str, .b (.int .i64), .b (.int .i64)], 27, [(0, .v), (1, .v), (2, .v), (3, .v)], []⟩
noncomputable def chart_made_o : Exits := [(.ret, ⟨[.b .bool], 27, [(8, .v)], []⟩)]
noncomputable def chart_made_s : TSum := TSum.of (baseC (fun _ => none) (fun _ => [])) (Go.Proofs.Tryz.f100.results.toList) 0 chart_made_i chart_made_o (fun v => chart_made v.1 v.2.1 v.2.2.1 v.2.2.2)
noncomputable def chart_made_z : Code := Option.getD Go.Proofs.Tryz.f100.body .skip
noncomputable def chart_made_x (gl : Glob) : TCtx := { baseC gl (lookS [(162, [chart_cutLeft_s]), (161, [chart_cutRight_s])]) with inl := lookI [], fuel := 0, loops := lookL [], cuts := lookL [] }
theorem chart_made_v {gl : Glob} (hg : Gs gl) : ValidS Go.Proofs.Tryz.prog gl 100 chart_made_s := by
  refine validS_of (c := chart_made_x gl) ?_ hm_ Go.Proofs.Tryz.func100 (body := chart_made_z) ?_ ?_ ?_ ?_ ?_ ?_ ?_ ?_ ?_
  · exact tok_of tyB_ok cmpB_ok (.cons (.cons (chart_cutLeft_v hg) .nil) (hb_ 162 Go.Proofs.Tryz.func162 (by kernel_rfl) (by kernel_rfl)) (.cons (.cons (chart_cutRight_v hg) .nil) (hb_ 161 Go.Proofs.Tryz.func161 (by kernel_rfl) (by kernel_rfl)) .nil)) .nil
  · kernel_rfl
  · rfl
  · exact annOK_by (l := []) (by kernel_rfl) (trivial)
  · exact fun (a0, a1, a2, a3) => Eq.symm (by kernel_rfl)
  · kernel_rfl
  · kernel_rfl
  · exact exitX_of (.cons (fun v => by kernel_rfl) .nil)
  · rfl
  · rfl
noncomputable def internal_strconv_lower_i : Pat := ⟨[.b (.int .u8)], 5, [(0, .v)], []⟩
noncomputable def internal_strconv_lower_o : Exits := [(.ret, ⟨[.b (.int .u8)], 5, [(2, .v)], []⟩)]
noncomputable def internal_strconv_lower_s : TSum := TSum.of (baseC (fun _ => none) (fun _ => [])) (Go.Proofs.Tryz.f244.results.toList) 0 internal_strconv_lower_i internal_strconv_lower_o (fun v => internal_strconv_lower v)
noncomputable def internal_strconv_lower_z : Code := Option.getD Go.Proofs.Tryz.f244.body .skip
noncomputable def internal_strconv_lower_x (gl : Glob) : TCtx := { baseC gl (lookS []) with inl := lookI [], fuel := 0, loops := lookL [], cuts := lookL [] }
theorem internal_strconv_lower_v {gl : Glob} (hg : Gs gl) : ValidS Go.Proofs.Tryz.prog gl 244 internal_strconv_lower_s := by
  refine validS_of (c := internal_strconv_lower_x gl) ?_ hm_ Go.Proofs.Tryz.func244 (body := internal_strconv_lower_z) ?_ ?_ ?_ ?_ ?_ ?_ ?_ ?_ ?_
  · exact tok_of tyB_ok cmpB_ok .nil .nil
  · kernel_rfl
  · rfl
  · exact annOK_by (l := []) (by kernel_rfl) (trivial)
  · exact fun v => Eq.symm (by kernel_rfl)
  · kernel_rfl
  · kernel_rfl
  · exact exitX_of (.cons (fun v => by kernel_rfl) .nil)
  · rfl
  · rfl
noncomputable def internal_strconv_ParseUint_l36 : Loop1 := ⟨⟨[.b .bool, .b .str, .b .bool, .b (.int .u64), .b (.int .i64), .b (.int .i64), .r [.b (.int .u8)]], 172, [(1, (.lit (.int .i64 16))), (8, .v), (9, .v), (10, (.lit (.int .u64 1152921504606846976))), (11, (.lit (.int .u64 4294967295))), (12, .v), (13, .v), (99, (.own 199)), (100, .v), (101, .v)], [⟨199, 0, .row false 5 [.b (.int .u8)]⟩]⟩, [(.ret, ⟨[.b (.int .u64)], 172, [(6, .v), (7, .ifc)], []⟩), (.exit 3, ⟨[.b .str, .b .bool, .b (.int .u64)], 172, [(9, .v), (12, .v), (13, .v)], []⟩)], internal_strconv_ParseUint_b36⟩
noncomputable def internal_strconv_ParseUint_i : Pat := ⟨[.b .str], 172, [(0, .v), (1, (.lit (.int .i64 16))), (2, (.lit (.int .i64 32)))], []⟩
noncomputable def internal_strconv_ParseUint_o : Exits := [(.ret, ⟨[.b (.int .u64)], 172, [(6, .v), (7, .ifc)], []⟩), (.ret, ⟨[.b (.int .u64)], 172, [(6, .v), (7, (.lit .nilIface))], []⟩)]
noncomputable def internal_strconv_ParseUint_s : TSum := TSum.of (baseC (fun _ => none) (fun _ => [])) (Go.Proofs.Tryz.f208.results.toList) 0 internal_strconv_ParseUint_i internal_strconv_ParseUint_o (fun v => internal_strconv_ParseUint v)
noncomputable def internal_strconv_ParseUint_z : Code := Option.getD Go.Proofs.Tryz.f208.body .skip
noncomputable def internal_strconv_ParseUint_x (gl : Glob) : TCtx := { baseC gl (lookS [(244, [internal_strconv_lower_s])]) with inl := lookI [], fuel := 0, loops := lookL [(36, internal_strconv_ParseUint_l36)], cuts := lookL [] }
theorem internal_strconv_ParseUint_v {gl : Glob} (hg : Gs gl) : ValidS Go.Proofs.Tryz.prog gl 208 internal_strconv_ParseUint_s := by
  refine validS_of (c := internal_strconv_ParseUint_x gl) ?_ hm_ Go.Proofs.Tryz.func208 (body := internal_strconv_ParseUint_z) ?_ ?_ ?_ ?_ ?_ ?_ ?_ ?_ ?_
  · exact tok_of tyB_ok cmpB_ok (.cons (.cons (internal_strconv_lower_v hg) .nil) (hb_ 244 Go.Proofs.Tryz.func244 (by kernel_rfl) (by kernel_rfl)) .nil) .nil
  · kernel_rfl
  · rfl
  · exact annOK_by (l := [∀ v, internal_strconv_ParseUint_l36.body v = (roundT (internal_strconv_ParseUint_x gl) internal_strconv_ParseUint_l36.pat internal_strconv_ParseUint_l36.exits (subAt [1, 1, 1, 1, 1, 1, 1, 1, 1, 1, 1, 0, 1, 0, 0] internal_strconv_ParseUint_z) v).run]) (by kernel_rfl) (⟨fun (a0, a1, a2, a3, a4, a5, a6) => Eq.symm (by kernel_rfl), trivial⟩)
  · exact fun v => Eq.symm (by kernel_rfl)
  · kernel_rfl
  · kernel_rfl
  · exact exitX_of (.cons (fun v => by kernel_rfl) (.cons (fun v => by kernel_rfl) .nil))
  · rfl
  · rfl
noncomputable def strconv_ParseUint_i : Pat := ⟨[.b .str], 26, [(0, .v), (1, (.lit (.int .i64 16))), (2, (.lit (.int .i64 32)))], []⟩
noncomputable def strconv_ParseUint_o : Exits := [(.ret, ⟨[.b (.int .u64)], 26, [(6, .v), (7, (.lit .nilIface))], []⟩)]
noncomputable def strconv_ParseUint_s : TSum := TSum.of (baseC (fun _ => none) (fun _ => [])) (Go.Proofs.Tryz.f167.results.toList) 0 strconv_ParseUint_i strconv_ParseUint_o (fun v => strconv_ParseUint v)
noncomputable def strconv_ParseUint_z : Code := Option.getD Go.Proofs.Tryz.f167.body .skip
noncomputable def strconv_ParseUint_x (gl : Glob) : TCtx := { baseC gl (lookS [(208, [internal_strconv_ParseUint_s])]) with inl := lookI [], fuel := 0, loops := lookL [], cuts := lookL [] }
theorem strconv_ParseUint_v {gl : Glob} (hg : Gs gl) : ValidS Go.Proofs.Tryz.prog gl 167 strconv_ParseUint_s := by
  refine validS_of (c := strconv_ParseUint_x gl) ?_ hm_ Go.Proofs.Tryz.func167 (body := strconv_ParseUint_z) ?_ ?_ ?_ ?_ ?_ ?_ ?_ ?_ ?_
  · exact tok_of tyB_ok cmpB_ok (.cons (.cons (internal_strconv_ParseUint_v hg) .nil) (hb_ 208 Go.Proofs.Tryz.func208 (by kernel_rfl) (by kernel_rfl)) .nil) .nil
  · kernel_rfl
  · rfl
  · exact annOK_by (l := []) (by kernel_rfl) (trivial)
  · exact fun v => Eq.symm (by kernel_rfl)
  · kernel_rfl
  · kernel_rfl
  · exact exitX_of (.cons (fun v => by kernel_rfl) .nil)
  · rfl
  · rfl
noncomputable def chart_point_i : Pat := ⟨[.b .str], 32, [(0, .v)], []⟩
noncomputable def chart_point_o : Exits := [(.ret, ⟨[.b (.int .u32), .b .bool], 32, [(2, .v), (3, .v)], []⟩)]
noncomputable def chart_point_s : TSum := TSum.of (baseC (fun _ => none) (fun _ => [])) (Go.Proofs.Tryz.f109.results.toList) 0 chart_point_i chart_point_o (fun v => chart_point v)
noncomputable def chart_point_z : Code := Option.getD Go.Proofs.Tryz.f109.body .skip
noncomputable def chart_point_x (gl : Glob) : TCtx := { baseC gl (lookS [(100, [chart_made_s]), (167, [strconv_ParseUint_s])]) with inl := lookI [], fuel := 0, loops := lookL [], cuts := lookL [] }
theorem chart_point_v {gl : Glob} (hg : Gs gl) : ValidS Go.Proofs.Tryz.prog gl 109 chart_point_s := by
  refine validS_of (c := chart_point_x gl) ?_ hm_ Go.Proofs.Tryz.func109 (body := chart_point_z) ?_ ?_ ?_ ?_ ?_ ?_ ?_ ?_ ?_
  · exact tok_of tyB_ok cmpB_ok (.cons (.cons (chart_made_v hg) .nil) (hb_ 100 Go.Proofs.Tryz.func100 (by kernel_rfl) (by kernel_rfl)) (.cons (.cons (strconv_ParseUint_v hg) .nil) (hb_ 167 Go.Proofs.Tryz.func167 (by kernel_rfl) (by kernel_rfl)) .nil)) .nil
  · kernel_rfl
  · rfl
  · exact annOK_by (l := []) (by kernel_rfl) (trivial)
  · exact fun v => Eq.symm (by kernel_rfl)
  · kernel_rfl
  · kernel_rfl
  · exact exitX_of (.cons (fun v => by kernel_rfl) .nil)
  · rfl
  · rfl
noncomputable def chart_span_i : Pat := ⟨[.b .str, .b .str], 32, [(0, .v), (1, .v)], []⟩
noncomputable def chart_span_o : Exits := [(.ret, ⟨[.b .bool, .b (.int .u32), .b (.int .u32)], 32, [(4, (.ptr 104 0)), (5, .v)], [⟨104, 0, .cells [.v, .v]⟩]⟩)]
noncomputable def chart_span_s : TSum := TSum.of (baseC (fun _ => none) (fun _ => [])) (Go.Proofs.Tryz.f118.results.toList) 0 chart_span_i chart_span_o (fun v => chart_span v.1 v.2)
noncomputable def chart_span_z : Code := Option.getD Go.Proofs.Tryz.f118.body .skip
noncomputable def chart_span_x (gl : Glob) : TCtx := { baseC gl (lookS [(109, [chart_point_s])]) with inl := lookI [], fuel := 0, loops := lookL [], cuts := lookL [] }
theorem chart_span_v {gl : Glob} (hg : Gs gl) : ValidS Go.Proofs.Tryz.prog gl 118 chart_span_s := by
  refine validS_of (c := chart_span_x gl) ?_ hm_ Go.Proofs.Tryz.func118 (body := chart_span_z) ?_ ?_ ?_ ?_ ?_ ?_ ?_ ?_ ?_
  · exact tok_of tyB_ok cmpB_ok (.cons (.cons (chart_point_v hg) .nil) (hb_ 109 Go.Proofs.Tryz.func109 (by kernel_rfl) (by kernel_rfl)) .nil) .nil
  · kernel_rfl
  · rfl
  · exact annOK_by (l := []) (by kernel_rfl) (trivial)
  · exact fun (a0, a1) => Eq.symm (by kernel_rfl)
  · kernel_rfl
  · kernel_rfl
  · exact exitX_of (.cons (fun v => by kernel_rfl) .nil)
  · rfl
  · rfl
noncomputable def chart_Ranges_1_1_i : Pat := ⟨[.b (.int .u32), .b (.int .u32), .b .str, .b .str, .b .str, .b .bool], 5, [(0, (.agg [.v, .v, .v, .v, .v, .v]))], []⟩
noncomputable def chart_Ranges_1_1_o : Exits := [(.ret, ⟨[.b (.int .u32), .b (.int .u32)], 5, [(2, (.ptr 102 0))], [⟨102, 0, .cells [.v, .v]⟩]⟩)]
noncomputable def chart_Ranges_1_1_s : TSum := TSum.of (baseC (fun _ => none) (fun _ => [])) (Go.Proofs.Tryz.f114.results.toList) 0 chart_Ranges_1_1_i chart_Ranges_1_1_o (fun v => chart_Ranges_1_1 v.1 v.2.1 v.2.2.1 v.2.2.2.1 v.2.2.2.2.1 v.2.2.2.2.2)
noncomputable def chart_Ranges_1_1_z : Code := Option.getD Go.Proofs.Tryz.f114.body .skip
noncomputable def chart_Ranges_1_1_x (gl : Glob) : TCtx := { baseC gl (lookS []) with inl := lookI [], fuel := 0, loops := lookL [], cuts := lookL [] }
theorem chart_Ranges_1_1_v {gl : Glob} (hg : Gs gl) : ValidS Go.Proofs.Tryz.prog gl 114 chart_Ranges_1_1_s := by
  refine validS_of (c := chart_Ranges_1_1_x gl) ?_ hm_ Go.Proofs.Tryz.func114 (body := chart_Ranges_1_1_z) ?_ ?_ ?_ ?_ ?_ ?_ ?_ ?_ ?_
  · exact tok_of tyB_ok cmpB_ok .nil .nil
  · kernel_rfl
  · rfl
  · exact annOK_by (l := []) (by kernel_rfl) (trivial)
  · exact fun (a0, a1, a2, a3, a4, a5) => Eq.symm (by kernel_rfl)
  · kernel_rfl
  · kernel_rfl
  · exact exitX_of (.cons (fun v => by kernel_rfl) .nil)
  · rfl
  · rfl
noncomputable def chart_behind_Range_i : Pat := ⟨[.b (.int .u32), .b (.int .u32), .r KzR], 24, [(0, (.own 0)), (1, (.agg [.v, .v])), (2, (.fn 114 [] []))], [⟨0, 0, .row true 98 KzR⟩]⟩
noncomputable def chart_behind_Range_o : Exits := [(.ret, ⟨[.b .bool, .r KzR], 24, [(6, .v)], [⟨0, 0, .row true 98 KzR⟩]⟩)]
noncomputable def chart_behind_Range_s : TSum := TSum.of (baseC (fun _ => none) (fun _ => [])) (Go.Proofs.Tryz.f169.results.toList) 1 chart_behind_Range_i chart_behind_Range_o (fun v => chart_behind_Range v.1 v.2.1 v.2.2)
noncomputable def chart_behind_Range_z : Code := Option.getD Go.Proofs.Tryz.f169.body .skip
noncomputable def chart_behind_Range_x (gl : Glob) : TCtx := { baseC gl (lookS [(114, [chart_Ranges_1_1_s])]) with inl := lookI [], fuel := 0, loops := lookL [], cuts := lookL [] }
theorem chart_behind_Range_v {gl : Glob} (hg : Gs gl) : ValidS Go.Proofs.Tryz.prog gl 169 chart_behind_Range_s := by
  refine validS_of (c := chart_behind_Range_x gl) ?_ hm_ Go.Proofs.Tryz.func169 (body := chart_behind_Range_z) ?_ ?_ ?_ ?_ ?_ ?_ ?_ ?_ ?_
  · exact tok_of tyB_ok cmpB_ok (.cons (.cons (chart_Ranges_1_1_v hg) .nil) (hb_ 114 Go.Proofs.Tryz.func114 (by kernel_rfl) (by kernel_rfl)) .nil) .nil
  · kernel_rfl
  · rfl
  · exact annOK_by (l := []) (by kernel_rfl) (trivial)
  · exact fun (a0, a1, a2) => Eq.symm (by kernel_rfl)
  · kernel_rfl
  · kernel_rfl
  · exact exitX_of (.cons (fun v => by kernel_rfl) .nil)
  · rfl
  · rfl
noncomputable def chart_spanned_Range_i : Pat := ⟨[.b (.int .i64), .r [.b .str], .r KzR], 35, [(0, (.own 0)), (1, .v), (2, (.own 1)), (3, (.fn 114 [] []))], [⟨0, 0, .row true 9 [.b .str]⟩, ⟨1, 0, .row true 98 KzR⟩]⟩
noncomputable def chart_spanned_Range_o : Exits := [(.ret, ⟨[.b .bool, .b (.int .u32), .b (.int .u32), .r [.b .str], .r KzR], 35, [(8, (.ptr 108 0)), (9, .v)], [⟨108, 0, .cells [.v, .v]⟩, ⟨0, 0, .row true 9 [.b .str]⟩, ⟨1, 0, .row true 98 KzR⟩]⟩)]
noncomputable def chart_spanned_Range_s : TSum := TSum.of (baseC (fun _ => none) (fun _ => [])) (Go.Proofs.Tryz.f113.results.toList) 2 chart_spanned_Range_i chart_spanned_Range_o (fun v => chart_spanned_Range v.1 v.2.1 v.2.2)
noncomputable def chart_spanned_Range_z : Code := Option.getD Go.Proofs.Tryz.f113.body .skip
noncomputable def chart_spanned_Range_x (gl : Glob) : TCtx := { baseC gl (lookS [(118, [chart_span_s]), (169, [chart_behind_Range_s])]) with inl := lookI [], fuel := 0, loops := lookL [], cuts := lookL [] }
theorem chart_spanned_Range_v {gl : Glob} (hg : Gs gl) : ValidS Go.Proofs.Tryz.prog gl 113 chart_spanned_Range_s := by
  refine validS_of (c := chart_spanned_Range_x gl) ?_ hm_ Go.Proofs.Tryz.func113 (body := chart_spanned_Range_z) ?_ ?_ ?_ ?_ ?_ ?_ ?_ ?_ ?_
  · exact tok_of tyB_ok cmpB_ok (.cons (.cons (chart_span_v hg) .nil) (hb_ 118 Go.Proofs.Tryz.func118 (by kernel_rfl) (by kernel_rfl)) (.cons (.cons (chart_behind_Range_v hg) .nil) (hb_ 169 Go.Proofs.Tryz.func169 (by kernel_rfl) (by kernel_rfl)) .nil)) .nil
  · kernel_rfl
  · rfl
  · exact annOK_by (l := []) (by kernel_rfl) (trivial)
  · exact fun (a0, a1, a2) => Eq.symm (by kernel_rfl)
  · kernel_rfl
  · kernel_rfl
  · exact exitX_of (.cons (fun v => by kernel_rfl) .nil)
  · rfl
  · rfl
noncomputable def chart_Ranges_1_i : Pat := ⟨[.r [.b .str], .r KzR], 80, [(0, (.own 0)), (1, (.own 1))], [⟨0, 0, .row true 9 [.b .str]⟩, ⟨1, 0, .row true 98 KzR⟩]⟩
noncomputable def chart_Ranges_1_o : Exits := [(.ret, ⟨[.b .bool, .b (.int .u32), .b (.int .u32), .b .str, .b .str, .b .str, .b .bool, .r [.b .str], .r KzR], 80, [(4, (.ptr 104 0)), (5, .v)], [⟨104, 0, .cells [.v, .v, .v, .v, .v, .v]⟩, ⟨0, 0, .row true 9 [.b .str]⟩, ⟨1, 0, .row true 98 KzR⟩]⟩)]
noncomputable def chart_Ranges_1_s : TSum := TSum.of (baseC (fun _ => none) (fun _ => [])) (Go.Proofs.Tryz.f112.results.toList) 2 chart_Ranges_1_i chart_Ranges_1_o (fun v => chart_Ranges_1 v.1 v.2)
noncomputable def chart_Ranges_1_z : Code := Option.getD Go.Proofs.Tryz.f112.body .skip
noncomputable def chart_Ranges_1_x (gl : Glob) : TCtx := { baseC gl (lookS [(100, [chart_made_s]), (113, [chart_spanned_Range_s])]) with inl := lookI [], fuel := 0, loops := lookL [], cuts := lookL [] }
theorem chart_Ranges_1_v {gl : Glob} (hg : Gs gl) : ValidS Go.Proofs.Tryz.prog gl 112 chart_Ranges_1_s := by
  refine validS_of (c := chart_Ranges_1_x gl) ?_ hm_ Go.Proofs.Tryz.func112 (body := chart_Ranges_1_z) ?_ ?_ ?_ ?_ ?_ ?_ ?_ ?_ ?_
  · exact tok_of tyB_ok cmpB_ok (.cons (.cons (chart_made_v hg) .nil) (hb_ 100 Go.Proofs.Tryz.func100 (by kernel_rfl) (by kernel_rfl)) (.cons (.cons (chart_spanned_Range_v hg) .nil) (hb_ 113 Go.Proofs.Tryz.func113 (by kernel_rfl) (by kernel_rfl)) .nil)) .nil
  · kernel_rfl
  · rfl
  · exact annOK_by (l := []) (by kernel_rfl) (trivial)
  · exact fun (a0, a1) => Eq.symm (by kernel_rfl)
  · kernel_rfl
  · kernel_rfl
  · exact exitX_of (.cons (fun v => by kernel_rfl) .nil)
  · rfl
  · rfl
noncomputable def chart_read_Range_l5 : Loop1 := ⟨⟨[.b (.int .i64), .b (.int .i64), .r [.b .str], .r KzR], 40, [(1, (.fn 112 [] [])), (7, (.own 5000)), (15, (.own 1150)), (16, .v), (17, .v)], [⟨1150, 0, .row true 9 [.b .str]⟩, ⟨5000, 0, .row true 98 KzR⟩]⟩, [(.exit 0, ⟨[.r KzR], 40, [(7, (.own 5000))], [⟨5000, 0, .row true 98 KzR⟩]⟩), (.ret, ⟨[.b (.int .i64), .b (.int .i64)], 40, [(4, (.lit (.slice none 0 0))), (5, .v), (6, .v)], []⟩)], chart_read_Range_b5⟩
noncomputable def chart_read_Range_i : Pat := ⟨[.b .str], 40, [(0, .v), (1, (.fn 112 [] []))], []⟩
noncomputable def chart_read_Range_o : Exits := [(.ret, ⟨[.b (.int .i64), .b (.int .i64), .r KzR], 40, [(4, (.own 5000)), (5, .v), (6, .v)], [⟨5000, 0, .row true 98 KzR⟩]⟩)]
noncomputable def chart_read_Range_s : TSum := TSum.of (baseC (fun _ => none) (fun _ => [])) (Go.Proofs.Tryz.f111.results.toList) 0 chart_read_Range_i chart_read_Range_o (fun v => chart_read_Range v)
noncomputable def chart_read_Range_z : Code := Option.getD Go.Proofs.Tryz.f111.body .skip
noncomputable def chart_read_Range_x (gl : Glob) : TCtx := { baseC gl (lookS [(159, [strings_Split_s]), (112, [chart_Ranges_1_s])]) with inl := lookI [], fuel := 0, loops := lookL [(5, chart_read_Range_l5)], cuts := lookL [] }
theorem chart_read_Range_v {gl : Glob} (hg : Gs gl) : ValidS Go.Proofs.Tryz.prog gl 111 chart_read_Range_s := by
  refine validS_of (c := chart_read_Range_x gl) ?_ hm_ Go.Proofs.Tryz.func111 (body := chart_read_Range_z) ?_ ?_ ?_ ?_ ?_ ?_ ?_ ?_ ?_
  · exact tok_of tyB_ok cmpB_ok (.cons (.cons (strings_Split_v hg) .nil) (hb_ 159 Go.Proofs.Tryz.func159 (by kernel_rfl) (by kernel_rfl)) (.cons (.cons (chart_Ranges_1_v hg) .nil) (hb_ 112 Go.Proofs.Tryz.func112 (by kernel_rfl) (by kernel_rfl)) .nil)) .nil
  · kernel_rfl
  · rfl
  · exact annOK_by (l := [∀ v, chart_read_Range_l5.body v = (roundT (chart_read_Range_x gl) chart_read_Range_l5.pat chart_read_Range_l5.exits (subAt [1, 1, 1, 0, 1, 0, 0] chart_read_Range_z) v).run]) (by kernel_rfl) (⟨fun (a0, a1, a2, a3) => Eq.symm (by kernel_rfl), trivial⟩)
  · exact fun v => Eq.symm (by kernel_rfl)
  · kernel_rfl
  · kernel_rfl
  · exact exitX_of (.cons (fun v => by kernel_rfl) .nil)
  · rfl
  · rfl
noncomputable def chart_Ranges_i : Pat := ⟨[.b .str], 10, [(0, .v)], []⟩
noncomputable def chart_Ranges_o : Exits := [(.ret, ⟨[.b (.int .i64), .b (.int .i64), .r KzR], 10, [(2, (.own 1060)), (3, .v), (4, .v)], [⟨1060, 0, .row true 98 KzR⟩]⟩)]
noncomputable def chart_Ranges_s : TSum := TSum.of (baseC (fun _ => none) (fun _ => [])) (Go.Proofs.Tryz.f49.results.toList) 0 chart_Ranges_i chart_Ranges_o (fun v => chart_Ranges v)
noncomputable def chart_Ranges_z : Code := Option.getD Go.Proofs.Tryz.f49.body .skip
noncomputable def chart_Ranges_x (gl : Glob) : TCtx := { baseC gl (lookS [(111, [chart_read_Range_s])]) with inl := lookI [], fuel := 0, loops := lookL [], cuts := lookL [] }
theorem chart_Ranges_v {gl : Glob} (hg : Gs gl) : ValidS Go.Proofs.Tryz.prog gl 49 chart_Ranges_s := by
  refine validS_of (c := chart_Ranges_x gl) ?_ hm_ Go.Proofs.Tryz.func49 (body := chart_Ranges_z) ?_ ?_ ?_ ?_ ?_ ?_ ?_ ?_ ?_
  · exact tok_of tyB_ok cmpB_ok (.cons (.cons (chart_read_Range_v hg) .nil) (hb_ 111 Go.Proofs.Tryz.func111 (by kernel_rfl) (by kernel_rfl)) .nil) .nil
  · kernel_rfl
  · rfl
  · exact annOK_by (l := []) (by kernel_rfl) (trivial)
  · exact fun v => Eq.symm (by kernel_rfl)
  · kernel_rfl
  · kernel_rfl
  · exact exitX_of (.cons (fun v => by kernel_rfl) .nil)
  · rfl
  · rfl
noncomputable def chart_Classes_1_1_i : Pat := ⟨[.b (.int .u32), .b (.int .u32), .b (.int .u32)], 5, [(0, (.agg [.v, .v, .v]))], []⟩
noncomputable def chart_Classes_1_1_o : Exits := [(.ret, ⟨[.b (.int .u32), .b (.int .u32)], 5, [(2, (.ptr 102 0))], [⟨102, 0, .cells [.v, .v]⟩]⟩)]
noncomputable def chart_Classes_1_1_s : TSum := TSum.of (baseC (fun _ => none) (fun _ => [])) (Go.Proofs.Tryz.f99.results.toList) 0 chart_Classes_1_1_i chart_Classes_1_1_o (fun v => chart_Classes_1_1 v.1 v.2.1 v.2.2)
noncomputable def chart_Classes_1_1_z : Code := Option.getD Go.Proofs.Tryz.f99.body .skip
noncomputable def chart_Classes_1_1_x (gl : Glob) : TCtx := { baseC gl (lookS []) with inl := lookI [], fuel := 0, loops := lookL [], cuts := lookL [] }
theorem chart_Classes_1_1_v {gl : Glob} (hg : Gs gl) : ValidS Go.Proofs.Tryz.prog gl 99 chart_Classes_1_1_s := by
  refine validS_of (c := chart_Classes_1_1_x gl) ?_ hm_ Go.Proofs.Tryz.func99 (body := chart_Classes_1_1_z) ?_ ?_ ?_ ?_ ?_ ?_ ?_ ?_ ?_
  · exact tok_of tyB_ok cmpB_ok .nil .nil
  · kernel_rfl
  · rfl
  · exact annOK_by (l := []) (by kernel_rfl) (trivial)
  · exact fun (a0, a1, a2) => Eq.symm (by kernel_rfl)
  · kernel_rfl
  · kernel_rfl
  · exact exitX_of (.cons (fun v => by kernel_rfl) .nil)
  · rfl
  · rfl
noncomputable def chart_behind_Weight_i : Pat := ⟨[.b (.int .u32), .b (.int .u32), .r KzT], 24, [(0, (.own 0)), (1, (.agg [.v, .v])), (2, (.fn 99 [] []))], [⟨0, 0, .row true 85 KzT⟩]⟩
noncomputable def chart_behind_Weight_o : Exits := [(.ret, ⟨[.b .bool, .r KzT], 24, [(6, .v)], [⟨0, 0, .row true 85 KzT⟩]⟩)]
noncomputable def chart_behind_Weight_s : TSum := TSum.of (baseC (fun _ => none) (fun _ => [])) (Go.Proofs.Tryz.f160.results.toList) 1 chart_behind_Weight_i chart_behind_Weight_o (fun v => chart_behind_Weight v.1 v.2.1 v.2.2)
noncomputable def chart_behind_Weight_z : Code := Option.getD Go.Proofs.Tryz.f160.body .skip
noncomputable def chart_behind_Weight_x (gl : Glob) : TCtx := { baseC gl (lookS [(99, [chart_Classes_1_1_s])]) with inl := lookI [], fuel := 0, loops := lookL [], cuts := lookL [] }
theorem chart_behind_Weight_v {gl : Glob} (hg : Gs gl) : ValidS Go.Proofs.Tryz.prog gl 160 chart_behind_Weight_s := by
  refine validS_of (c := chart_behind_Weight_x gl) ?_ hm_ Go.Proofs.Tryz.func160 (body := chart_behind_Weight_z) ?_ ?_ ?_ ?_ ?_ ?_ ?_ ?_ ?_
  · exact tok_of tyB_ok cmpB_ok (.cons (.cons (chart_Classes_1_1_v hg) .nil) (hb_ 99 Go.Proofs.Tryz.func99 (by kernel_rfl) (by kernel_rfl)) .nil) .nil
  · kernel_rfl
  · rfl
  · exact annOK_by (l := []) (by kernel_rfl) (trivial)
  · exact fun (a0, a1, a2) => Eq.symm (by kernel_rfl)
  · kernel_rfl
  · kernel_rfl
  · exact exitX_of (.cons (fun v => by kernel_rfl) .nil)
  · rfl
  · rfl
noncomputable def chart_spanned_Weight_i : Pat := ⟨[.b (.int .i64), .r [.b .str], .r KzT], 35, [(0, (.own 0)), (1, .v), (2, (.own 1)), (3, (.fn 99 [] []))], [⟨0, 0, .row true 9 [.b .str]⟩, ⟨1, 0, .row true 85 KzT⟩]⟩
noncomputable def chart_spanned_Weight_o : Exits := [(.ret, ⟨[.b .bool, .b (.int .u32), .b (.int .u32), .r [.b .str], .r KzT], 35, [(8, (.ptr 108 0)), (9, .v)], [⟨108, 0, .cells [.v, .v]⟩, ⟨0, 0, .row true 9 [.b .str]⟩, ⟨1, 0, .row true 85 KzT⟩]⟩)]
noncomputable def chart_spanned_Weight_s : TSum := TSum.of (baseC (fun _ => none) (fun _ => [])) (Go.Proofs.Tryz.f98.results.toList) 2 chart_spanned_Weight_i chart_spanned_Weight_o (fun v => chart_spanned_Weight v.1 v.2.1 v.2.2)
noncomputable def chart_spanned_Weight_z : Code := Option.getD Go.Proofs.Tryz.f98.body .skip
noncomputable def chart_spanned_Weight_x (gl : Glob) : TCtx := { baseC gl (lookS [(118, [chart_span_s]), (160, [chart_behind_Weight_s])]) with inl := lookI [], fuel := 0, loops := lookL [], cuts := lookL [] }
theorem chart_spanned_Weight_v {gl : Glob} (hg : Gs gl) : ValidS Go.Proofs.Tryz.prog gl 98 chart_spanned_Weight_s := by
  refine validS_of (c := chart_spanned_Weight_x gl) ?_ hm_ Go.Proofs.Tryz.func98 (body := chart_spanned_Weight_z) ?_ ?_ ?_ ?_ ?_ ?_ ?_ ?_ ?_
  · exact tok_of tyB_ok cmpB_ok (.cons (.cons (chart_span_v hg) .nil) (hb_ 118 Go.Proofs.Tryz.func118 (by kernel_rfl) (by kernel_rfl)) (.cons (.cons (chart_behind_Weight_v hg) .nil) (hb_ 160 Go.Proofs.Tryz.func160 (by kernel_rfl) (by kernel_rfl)) .nil)) .nil
  · kernel_rfl
  · rfl
  · exact annOK_by (l := []) (by kernel_rfl) (trivial)
  · exact fun (a0, a1, a2) => Eq.symm (by kernel_rfl)
  · kernel_rfl
  · kernel_rfl
  · exact exitX_of (.cons (fun v => by kernel_rfl) .nil)
  · rfl
  · rfl
noncomputable def internal_strconv_Atoi_l10 : Loop1 := ⟨⟨[.b .str, .b (.int .i64), .b (.int .i64), .b (.int .i64), .r [.b (.int .u8)]], 77, [(5, .v), (6, .v), (47, (.own 147)), (48, .v), (49, .v)], [⟨147, 0, .row false 5 [.b (.int .u8)]⟩]⟩, [(.ret, ⟨[.b (.int .i64)], 77, [(2, .v), (3, .ifc)], []⟩), (.exit 0, ⟨[.b .str, .b (.int .i64)], 77, [(5, .v), (6, .v)], []⟩)], internal_strconv_Atoi_b10⟩
noncomputable def internal_strconv_Atoi_i : Pat := ⟨[.b .str], 77, [(0, .v)], []⟩
noncomputable def internal_strconv_Atoi_o : Exits := [(.ret, ⟨[.b (.int .i64)], 77, [(2, .v), (3, .ifc)], []⟩), (.ret, ⟨[.b (.int .i64)], 77, [(2, .v), (3, (.lit .nilIface))], []⟩)]
noncomputable def internal_strconv_Atoi_s : TSum := TSum.of (baseC (fun _ => none) (fun _ => [])) (Go.Proofs.Tryz.f163.results.toList) 0 internal_strconv_Atoi_i internal_strconv_Atoi_o (fun v => internal_strconv_Atoi v)
noncomputable def internal_strconv_Atoi_z : Code := Option.getD Go.Proofs.Tryz.f163.body .skip
noncomputable def internal_strconv_Atoi_x (gl : Glob) : TCtx := { baseC gl (lookS []) with inl := lookI [], fuel := 0, loops := lookL [(10, internal_strconv_Atoi_l10)], cuts := lookL [] }
theorem internal_strconv_Atoi_v {gl : Glob} (hg : Gs gl) : ValidS Go.Proofs.Tryz.prog gl 163 internal_strconv_Atoi_s := by
  refine validS_of (c := internal_strconv_Atoi_x gl) ?_ hm_ Go.Proofs.Tryz.func163 (body := internal_strconv_Atoi_z) ?_ ?_ ?_ ?_ ?_ ?_ ?_ ?_ ?_
  · exact tok_of tyB_ok cmpB_ok .nil .nil
  · kernel_rfl
  · rfl
  · exact annOK_by (l := [∀ v, internal_strconv_Atoi_l10.body v = (roundT (internal_strconv_Atoi_x gl) internal_strconv_Atoi_l10.pat internal_strconv_Atoi_l10.exits (subAt [1, 1, 0, 1, 0, 1, 1, 1, 0, 1, 0, 0] internal_strconv_Atoi_z) v).run]) (by kernel_rfl) (⟨fun (a0, a1, a2, a3, a4) => Eq.symm (by kernel_rfl), trivial⟩)
  · exact fun v => Eq.symm (by kernel_rfl)
  · kernel_rfl
  · kernel_rfl
  · exact exitX_of (.cons (fun v => by kernel_rfl) (.cons (fun v => by kernel_rfl) .nil))
  · rfl
  · rfl
noncomputable def strconv_Atoi_i : Pat := ⟨[.b .str], 18, [(0, .v)], []⟩
noncomputable def strconv_Atoi_o : Exits := [(.ret, ⟨[.b (.int .i64)], 18, [(2, .v), (3, (.lit .nilIface))], []⟩)]
noncomputable def strconv_Atoi_s : TSum := TSum.of (baseC (fun _ => none) (fun _ => [])) (Go.Proofs.Tryz.f101.results.toList) 0 strconv_Atoi_i strconv_Atoi_o (fun v => strconv_Atoi v)
noncomputable def strconv_Atoi_z : Code := Option.getD Go.Proofs.Tryz.f101.body .skip
noncomputable def strconv_Atoi_x (gl : Glob) : TCtx := { baseC gl (lookS [(163, [internal_strconv_Atoi_s])]) with inl := lookI [], fuel := 0, loops := lookL [], cuts := lookL [] }
theorem strconv_Atoi_v {gl : Glob} (hg : Gs gl) : ValidS Go.Proofs.Tryz.prog gl 101 strconv_Atoi_s := by
  refine validS_of (c := strconv_Atoi_x gl) ?_ hm_ Go.Proofs.Tryz.func101 (body := strconv_Atoi_z) ?_ ?_ ?_ ?_ ?_ ?_ ?_ ?_ ?_
  · exact tok_of tyB_ok cmpB_ok (.cons (.cons (internal_strconv_Atoi_v hg) .nil) (hb_ 163 Go.Proofs.Tryz.func163 (by kernel_rfl) (by kernel_rfl)) .nil) .nil
  · kernel_rfl
  · rfl
  · exact annOK_by (l := []) (by kernel_rfl) (trivial)
  · exact fun v => Eq.symm (by kernel_rfl)
  · kernel_rfl
  · kernel_rfl
  · exact exitX_of (.cons (fun v => by kernel_rfl) .nil)
  · rfl
  · rfl
noncomputable def chart_Classes_1_i : Pat := ⟨[.r [.b .str], .r KzT], 47, [(0, (.own 0)), (1, (.own 1))], [⟨0, 0, .row true 9 [.b .str]⟩, ⟨1, 0, .row true 85 KzT⟩]⟩
noncomputable def chart_Classes_1_o : Exits := [(.ret, ⟨[.b .bool, .b (.int .u32), .b (.int .u32), .b (.int .u32), .r [.b .str], .r KzT], 47, [(4, (.ptr 104 0)), (5, .v)], [⟨104, 0, .cells [.v, .v, .v]⟩, ⟨0, 0, .row true 9 [.b .str]⟩, ⟨1, 0, .row true 85 KzT⟩]⟩)]
noncomputable def chart_Classes_1_s : TSum := TSum.of (baseC (fun _ => none) (fun _ => [])) (Go.Proofs.Tryz.f97.results.toList) 2 chart_Classes_1_i chart_Classes_1_o (fun v => chart_Classes_1 v.1 v.2)
noncomputable def chart_Classes_1_z : Code := Option.getD Go.Proofs.Tryz.f97.body .skip
noncomputable def chart_Classes_1_x (gl : Glob) : TCtx := { baseC gl (lookS [(100, [chart_made_s]), (98, [chart_spanned_Weight_s]), (101, [strconv_Atoi_s])]) with inl := lookI [], fuel := 0, loops := lookL [], cuts := lookL [] }
theorem chart_Classes_1_v {gl : Glob} (hg : Gs gl) : ValidS Go.Proofs.Tryz.prog gl 97 chart_Classes_1_s := by
  refine validS_of (c := chart_Classes_1_x gl) ?_ hm_ Go.Proofs.Tryz.func97 (body := chart_Classes_1_z) ?_ ?_ ?_ ?_ ?_ ?_ ?_ ?_ ?_
  · exact tok_of tyB_ok cmpB_ok (.cons (.cons (chart_made_v hg) .nil) (hb_ 100 Go.Proofs.Tryz.func100 (by kernel_rfl) (by kernel_rfl)) (.cons (.cons (chart_spanned_Weight_v hg) .nil) (hb_ 98 Go.Proofs.Tryz.func98 (by kernel_rfl) (by kernel_rfl)) (.cons (.cons (strconv_Atoi_v hg) .nil) (hb_ 101 Go.Proofs.Tryz.func101 (by kernel_rfl) (by kernel_rfl)) .nil))) .nil
  · kernel_rfl
  · rfl
  · exact annOK_by (l := []) (by kernel_rfl) (trivial)
  · exact fun (a0, a1) => Eq.symm (by kernel_rfl)
  · kernel_rfl
  · kernel_rfl
  · exact exitX_of (.cons (fun v => by kernel_rfl) .nil)
  · rfl
  · rfl
noncomputable def chart_read_Weight_l5 : Loop1 := ⟨⟨[.b (.int .i64), .b (.int .i64), .r [.b .str], .r KzT], 40, [(1, (.fn 97 [] [])), (7, (.own 5000)), (15, (.own 1150)), (16, .v), (17, .v)], [⟨1150, 0, .row true 9 [.b .str]⟩, ⟨5000, 0, .row true 85 KzT⟩]⟩, [(.exit 0, ⟨[.r KzT], 40, [(7, (.own 5000))], [⟨5000, 0, .row true 85 KzT⟩]⟩), (.ret, ⟨[.b (.int .i64), .b (.int .i64)], 40, [(4, (.lit (.slice none 0 0))), (5, .v), (6, .v)], []⟩)], chart_read_Weight_b5⟩
noncomputable def chart_read_Weight_i : Pat := ⟨[.b .str], 40, [(0, .v), (1, (.fn 97 [] []))], []⟩
noncomputable def chart_read_Weight_o : Exits := [(.ret, ⟨[.b (.int .i64), .b (.int .i64), .r KzT], 40, [(4, (.own 5000)), (5, .v), (6, .v)], [⟨5000, 0, .row true 85 KzT⟩]⟩)]
noncomputable def chart_read_Weight_s : TSum := TSum.of (baseC (fun _ => none) (fun _ => [])) (Go.Proofs.Tryz.f96.results.toList) 0 chart_read_Weight_i chart_read_Weight_o (fun v => chart_read_Weight v)
noncomputable def chart_read_Weight_z : Code := Option.getD Go.Proofs.Tryz.f96.body .skip
noncomputable def chart_read_Weight_x (gl : Glob) : TCtx := { baseC gl (lookS [(159, [strings_Split_s]), (97, [chart_Classes_1_s])]) with inl := lookI [], fuel := 0, loops := lookL [(5, chart_read_Weight_l5)], cuts := lookL [] }
theorem chart_read_Weight_v {gl : Glob} (hg : Gs gl) : ValidS Go.Proofs.Tryz.prog gl 96 chart_read_Weight_s := by
  refine validS_of (c := chart_read_Weight_x gl) ?_ hm_ Go.Proofs.Tryz.func96 (body := chart_read_Weight_z) ?_ ?_ ?_ ?_ ?_ ?_ ?_ ?_ ?_
  · exact tok_of tyB_ok cmpB_ok (.cons (.cons (strings_Split_v hg) .nil) (hb_ 159 Go.Proofs.Tryz.func159 (by kernel_rfl) (by kernel_rfl)) (.cons (.cons (chart_Classes_1_v hg) .nil) (hb_ 97 Go.Proofs.Tryz.func97 (by kernel_rfl) (by kernel_rfl)) .nil)) .nil
  · kernel_rfl
  · rfl
  · exact annOK_by (l := [∀ v, chart_read_Weight_l5.body v = (roundT (chart_read_Weight_x gl) chart_read_Weight_l5.pat chart_read_Weight_l5.exits (subAt [1, 1, 1, 0, 1, 0, 0] chart_read_Weight_z) v).run]) (by kernel_rfl) (⟨fun (a0, a1, a2, a3) => Eq.symm (by kernel_rfl), trivial⟩)
  · exact fun v => Eq.symm (by kernel_rfl)
  · kernel_rfl
  · kernel_rfl
  · exact exitX_of (.cons (fun v => by kernel_rfl) .nil)
  · rfl
  · rfl
noncomputable def chart_Classes_i : Pat := ⟨[.b .str], 10, [(0, .v)], []⟩
noncomputable def chart_Classes_o : Exits := [(.ret, ⟨[.b (.int .i64), .b (.int .i64), .r KzT], 10, [(2, (.own 1060)), (3, .v), (4, .v)], [⟨1060, 0, .row true 85 KzT⟩]⟩)]
noncomputable def chart_Classes_s : TSum := TSum.of (baseC (fun _ => none) (fun _ => [])) (Go.Proofs.Tryz.f44.results.toList) 0 chart_Classes_i chart_Classes_o (fun v => chart_Classes v)
noncomputable def chart_Classes_z : Code := Option.getD Go.Proofs.Tryz.f44.body .skip
noncomputable def chart_Classes_x (gl : Glob) : TCtx := { baseC gl (lookS [(96, [chart_read_Weight_s])]) with inl := lookI [], fuel := 0, loops := lookL [], cuts := lookL [] }
theorem chart_Classes_v {gl : Glob} (hg : Gs gl) : ValidS Go.Proofs.Tryz.prog gl 44 chart_Classes_s := by
  refine validS_of (c := chart_Classes_x gl) ?_ hm_ Go.Proofs.Tryz.func44 (body := chart_Classes_z) ?_ ?_ ?_ ?_ ?_ ?_ ?_ ?_ ?_
  · exact tok_of tyB_ok cmpB_ok (.cons (.cons (chart_read_Weight_v hg) .nil) (hb_ 96 Go.Proofs.Tryz.func96 (by kernel_rfl) (by kernel_rfl)) .nil) .nil
  · kernel_rfl
  · rfl
  · exact annOK_by (l := []) (by kernel_rfl) (trivial)
  · exact fun v => Eq.symm (by kernel_rfl)
  · kernel_rfl
  · kernel_rfl
  · exact exitX_of (.cons (fun v => by kernel_rfl) .nil)
  · rfl
  · rfl
noncomputable def chart_points_l3 : Loop1 := ⟨⟨[.b (.int .i64), .b (.int .i64), .r [.b .str], .r [.b (.int .u32)]], 36, [(0, (.own 0)), (4, (.own 5000)), (9, (.own 0)), (10, .v), (11, .v)], [⟨0, 0, .row false 9 [.b .str]⟩, ⟨5000, 0, .row true 22 [.b (.int .u32)]⟩]⟩, [(.ret, ⟨[.b .bool, .r [.b .str]], 36, [(2, (.lit (.slice none 0 0))), (3, .v)], [⟨0, 0, .row false 9 [.b .str]⟩]⟩), (.exit 0, ⟨[.r [.b .str], .r [.b (.int .u32)]], 36, [(0, (.own 0)), (4, (.own 5000))], [⟨0, 0, .row false 9 [.b .str]⟩, ⟨5000, 0, .row true 22 [.b (.int .u32)]⟩]⟩)], chart_points_b3⟩
noncomputable def chart_points_i : Pat := ⟨[.r [.b .str]], 36, [(0, (.own 0))], [⟨0, 0, .row false 9 [.b .str]⟩]⟩
noncomputable def chart_points_o : Exits := [(.ret, ⟨[.b .bool, .r [.b .str], .r [.b (.int .u32)]], 36, [(2, (.own 5000)), (3, .v)], [⟨0, 0, .row false 9 [.b .str]⟩, ⟨5000, 0, .row true 22 [.b (.int .u32)]⟩]⟩)]
noncomputable def chart_points_s : TSum := TSum.of (baseC (fun _ => none) (fun _ => [])) (Go.Proofs.Tryz.f121.results.toList) 1 chart_points_i chart_points_o (fun v => chart_points v)
noncomputable def chart_points_z : Code := Option.getD Go.Proofs.Tryz.f121.body .skip
noncomputable def chart_points_x (gl : Glob) : TCtx := { baseC gl (lookS [(109, [chart_point_s])]) with inl := lookI [], fuel := 0, loops := lookL [(3, chart_points_l3)], cuts := lookL [] }
theorem chart_points_v {gl : Glob} (hg : Gs gl) : ValidS Go.Proofs.Tryz.prog gl 121 chart_points_s := by
  refine validS_of (c := chart_points_x gl) ?_ hm_ Go.Proofs.Tryz.func121 (body := chart_points_z) ?_ ?_ ?_ ?_ ?_ ?_ ?_ ?_ ?_
  · exact tok_of tyB_ok cmpB_ok (.cons (.cons (chart_point_v hg) .nil) (hb_ 109 Go.Proofs.Tryz.func109 (by kernel_rfl) (by kernel_rfl)) .nil) .nil
  · kernel_rfl
  · rfl
  · exact annOK_by (l := [∀ v, chart_points_l3.body v = (roundT (chart_points_x gl) chart_points_l3.pat chart_points_l3.exits (subAt [1, 1, 0, 1, 0, 0] chart_points_z) v).run]) (by kernel_rfl) (⟨fun (a0, a1, a2, a3) => Eq.symm (by kernel_rfl), trivial⟩)
  · exact fun v => Eq.symm (by kernel_rfl)
  · kernel_rfl
  · kernel_rfl
  · exact exitX_of (.cons (fun v => by kernel_rfl) .nil)
  · rfl
  · rfl
noncomputable def chart_Decomps_1_i : Pat := ⟨[.r [.b .str], .r KzD], 68, [(0, (.own 0)), (1, (.own 1))], [⟨0, 0, .row true 9 [.b .str]⟩, ⟨1, 0, .row true 68 KzD⟩]⟩
noncomputable def chart_Decomps_1_o : Exits := [(.ret, ⟨[.b .bool, .b (.int .u32), .b .bool, .b .bool, .r [.b .str], .r KzD, .r [.b (.int .u32)]], 68, [(4, (.ptr 104 0)), (5, .v)], [⟨104, 0, .cells [.v, (.own 5000), .v, .v]⟩, ⟨0, 0, .row false 9 [.b .str]⟩, ⟨1, 0, .row true 68 KzD⟩, ⟨5000, 0, .row true 22 [.b (.int .u32)]⟩]⟩)]
noncomputable def chart_Decomps_1_s : TSum := TSum.of (baseC (fun _ => none) (fun _ => [])) (Go.Proofs.Tryz.f120.results.toList) 2 chart_Decomps_1_i chart_Decomps_1_o (fun v => chart_Decomps_1 v.1 v.2)
noncomputable def chart_Decomps_1_z : Code := Option.getD Go.Proofs.Tryz.f120.body .skip
noncomputable def chart_Decomps_1_x (gl : Glob) : TCtx := { baseC gl (lookS [(100, [chart_made_s]), (109, [chart_point_s]), (121, [chart_points_s])]) with inl := lookI [], fuel := 0, loops := lookL [], cuts := lookL [] }
theorem chart_Decomps_1_v {gl : Glob} (hg : Gs gl) : ValidS Go.Proofs.Tryz.prog gl 120 chart_Decomps_1_s := by
  refine validS_of (c := chart_Decomps_1_x gl) ?_ hm_ Go.Proofs.Tryz.func120 (body := chart_Decomps_1_z) ?_ ?_ ?_ ?_ ?_ ?_ ?_ ?_ ?_
  · exact tok_of tyB_ok cmpB_ok (.cons (.cons (chart_made_v hg) .nil) (hb_ 100 Go.Proofs.Tryz.func100 (by kernel_rfl) (by kernel_rfl)) (.cons (.cons (chart_point_v hg) .nil) (hb_ 109 Go.Proofs.Tryz.func109 (by kernel_rfl) (by kernel_rfl)) (.cons (.cons (chart_points_v hg) .nil) (hb_ 121 Go.Proofs.Tryz.func121 (by kernel_rfl) (by kernel_rfl)) .nil))) .nil
  · kernel_rfl
  · rfl
  · exact annOK_by (l := []) (by kernel_rfl) (trivial)
  · exact fun (a0, a1) => Eq.symm (by kernel_rfl)
  · kernel_rfl
  · kernel_rfl
  · exact exitX_of (.cons (fun v => by kernel_rfl) .nil)
  · rfl
  · rfl
noncomputable def chart_read_Decomp_l5 : Loop1 := ⟨⟨[.b (.int .i64), .b (.int .i64), .r [.b .str], .r KzD], 40, [(1, (.fn 120 [] [])), (7, (.own 5000)), (15, (.own 1150)), (16, .v), (17, .v)], [⟨1150, 0, .row true 9 [.b .str]⟩, ⟨5000, 0, .row true 68 KzD⟩]⟩, [(.exit 0, ⟨[.r KzD], 40, [(7, (.own 5000))], [⟨5000, 0, .row true 68 KzD⟩]⟩), (.ret, ⟨[.b (.int .i64), .b (.int .i64)], 40, [(4, (.lit (.slice none 0 0))), (5, .v), (6, .v)], []⟩)], chart_read_Decomp_b5⟩
noncomputable def chart_read_Decomp_i : Pat := ⟨[.b .str], 40, [(0, .v), (1, (.fn 120 [] []))], []⟩
noncomputable def chart_read_Decomp_o : Exits := [(.ret, ⟨[.b (.int .i64), .b (.int .i64), .r KzD], 40, [(4, (.own 5000)), (5, .v), (6, .v)], [⟨5000, 0, .row true 68 KzD⟩]⟩)]
noncomputable def chart_read_Decomp_s : TSum := TSum.of (baseC (fun _ => none) (fun _ => [])) (Go.Proofs.Tryz.f119.results.toList) 0 chart_read_Decomp_i chart_read_Decomp_o (fun v => chart_read_Decomp v)
noncomputable def chart_read_Decomp_z : Code := Option.getD Go.Proofs.Tryz.f119.body .skip
noncomputable def chart_read_Decomp_x (gl : Glob) : TCtx := { baseC gl (lookS [(159, [strings_Split_s]), (120, [chart_Decomps_1_s])]) with inl := lookI [], fuel := 0, loops := lookL [(5, chart_read_Decomp_l5)], cuts := lookL [] }
theorem chart_read_Decomp_v {gl : Glob} (hg : Gs gl) : ValidS Go.Proofs.Tryz.prog gl 119 chart_read_Decomp_s := by
  refine validS_of (c := chart_read_Decomp_x gl) ?_ hm_ Go.Proofs.Tryz.func119 (body := chart_read_Decomp_z) ?_ ?_ ?_ ?_ ?_ ?_ ?_ ?_ ?_
  · exact tok_of tyB_ok cmpB_ok (.cons (.cons (strings_Split_v hg) .nil) (hb_ 159 Go.Proofs.Tryz.func159 (by kernel_rfl) (by kernel_rfl)) (.cons (.cons (chart_Decomps_1_v hg) .nil) (hb_ 120 Go.Proofs.Tryz.func120 (by kernel_rfl) (by kernel_rfl)) .nil)) .nil
  · kernel_rfl
  · rfl
  · exact annOK_by (l := [∀ v, chart_read_Decomp_l5.body v = (roundT (chart_read_Decomp_x gl) chart_read_Decomp_l5.pat chart_read_Decomp_l5.exits (subAt [1, 1, 1, 0, 1, 0, 0] chart_read_Decomp_z) v).run]) (by kernel_rfl) (⟨fun (a0, a1, a2, a3) => Eq.symm (by kernel_rfl), trivial⟩)
  · exact fun v => Eq.symm (by kernel_rfl)
  · kernel_rfl
  · kernel_rfl
  · exact exitX_of (.cons (fun v => by kernel_rfl) .nil)
  · rfl
  · rfl
noncomputable def chart_Decomps_i : Pat := ⟨[.b .str], 10, [(0, .v)], []⟩
noncomputable def chart_Decomps_o : Exits := [(.ret, ⟨[.b (.int .i64), .b (.int .i64), .r KzD], 10, [(2, (.own 1060)), (3, .v), (4, .v)], [⟨1060, 0, .row true 68 KzD⟩]⟩)]
noncomputable def chart_Decomps_s : TSum := TSum.of (baseC (fun _ => none) (fun _ => [])) (Go.Proofs.Tryz.f53.results.toList) 0 chart_Decomps_i chart_Decomps_o (fun v => chart_Decomps v)
noncomputable def chart_Decomps_z : Code := Option.getD Go.Proofs.Tryz.f53.body .skip
noncomputable def chart_Decomps_x (gl : Glob) : TCtx := { baseC gl (lookS [(119, [chart_read_Decomp_s])]) with inl := lookI [], fuel := 0, loops := lookL [], cuts := lookL [] }
theorem chart_Decomps_v {gl : Glob} (hg : Gs gl) : ValidS Go.Proofs.Tryz.prog gl 53 chart_Decomps_s := by
  refine validS_of (c := chart_Decomps_x gl) ?_ hm_ Go.Proofs.Tryz.func53 (body := chart_Decomps_z) ?_ ?_ ?_ ?_ ?_ ?_ ?_ ?_ ?_
  · exact tok_of tyB_ok cmpB_ok (.cons (.cons (chart_read_Decomp_v hg) .nil) (hb_ 119 Go.Proofs.Tryz.func119 (by kernel_rfl) (by kernel_rfl)) .nil) .nil
  · kernel_rfl
  · rfl
  · exact annOK_by (l := []) (by kernel_rfl) (trivial)
  · exact fun v => Eq.symm (by kernel_rfl)
  · kernel_rfl
  · kernel_rfl
  · exact exitX_of (.cons (fun v => by kernel_rfl) .nil)
  · rfl
  · rfl
noncomputable def chart_Runs_1_1_i : Pat := ⟨[.b (.int .u32), .b (.int .u32), .b (.int .u32)], 5, [(0, (.agg [.v, .v, .v]))], []⟩
noncomputable def chart_Runs_1_1_o : Exits := [(.ret, ⟨[.b (.int .u32), .b (.int .u32)], 5, [(2, (.ptr 102 0))], [⟨102, 0, .cells [.v, .v]⟩]⟩)]
noncomputable def chart_Runs_1_1_s : TSum := TSum.of (baseC (fun _ => none) (fun _ => [])) (Go.Proofs.Tryz.f108.results.toList) 0 chart_Runs_1_1_i chart_Runs_1_1_o (fun v => chart_Runs_1_1 v.1 v.2.1 v.2.2)
noncomputable def chart_Runs_1_1_z : Code := Option.getD Go.Proofs.Tryz.f108.body .skip
noncomputable def chart_Runs_1_1_x (gl : Glob) : TCtx := { baseC gl (lookS []) with inl := lookI [], fuel := 0, loops := lookL [], cuts := lookL [] }
theorem chart_Runs_1_1_v {gl : Glob} (hg : Gs gl) : ValidS Go.Proofs.Tryz.prog gl 108 chart_Runs_1_1_s := by
  refine validS_of (c := chart_Runs_1_1_x gl) ?_ hm_ Go.Proofs.Tryz.func108 (body := chart_Runs_1_1_z) ?_ ?_ ?_ ?_ ?_ ?_ ?_ ?_ ?_
  · exact tok_of tyB_ok cmpB_ok .nil .nil
  · kernel_rfl
  · rfl
  · exact annOK_by (l := []) (by kernel_rfl) (trivial)
  · exact fun (a0, a1, a2) => Eq.symm (by kernel_rfl)
  · kernel_rfl
  · kernel_rfl
  · exact exitX_of (.cons (fun v => by kernel_rfl) .nil)
  · rfl
  · rfl
noncomputable def chart_behind_Run_i : Pat := ⟨[.b (.int .u32), .b (.int .u32), .r KzT], 24, [(0, (.own 0)), (1, (.agg [.v, .v])), (2, (.fn 108 [] []))], [⟨0, 0, .row true 87 KzT⟩]⟩
noncomputable def chart_behind_Run_o : Exits := [(.ret, ⟨[.b .bool, .r KzT], 24, [(6, .v)], [⟨0, 0, .row true 87 KzT⟩]⟩)]
noncomputable def chart_behind_Run_s : TSum := TSum.of (baseC (fun _ => none) (fun _ => [])) (Go.Proofs.Tryz.f166.results.toList) 1 chart_behind_Run_i chart_behind_Run_o (fun v => chart_behind_Run v.1 v.2.1 v.2.2)
noncomputable def chart_behind_Run_z : Code := Option.getD Go.Proofs.Tryz.f166.body .skip
noncomputable def chart_behind_Run_x (gl : Glob) : TCtx := { baseC gl (lookS [(108, [chart_Runs_1_1_s])]) with inl := lookI [], fuel := 0, loops := lookL [], cuts := lookL [] }
theorem chart_behind_Run_v {gl : Glob} (hg : Gs gl) : ValidS Go.Proofs.Tryz.prog gl 166 chart_behind_Run_s := by
  refine validS_of (c := chart_behind_Run_x gl) ?_ hm_ Go.Proofs.Tryz.func166 (body := chart_behind_Run_z) ?_ ?_ ?_ ?_ ?_ ?_ ?_ ?_ ?_
  · exact tok_of tyB_ok cmpB_ok (.cons (.cons (chart_Runs_1_1_v hg) .nil) (hb_ 108 Go.Proofs.Tryz.func108 (by kernel_rfl) (by kernel_rfl)) .nil) .nil
  · kernel_rfl
  · rfl
  · exact annOK_by (l := []) (by kernel_rfl) (trivial)
  · exact fun (a0, a1, a2) => Eq.symm (by kernel_rfl)
  · kernel_rfl
  · kernel_rfl
  · exact exitX_of (.cons (fun v => by kernel_rfl) .nil)
  · rfl
  · rfl
noncomputable def chart_spanned_Run_i : Pat := ⟨[.b (.int .i64), .r [.b .str], .r KzT], 35, [(0, (.own 0)), (1, .v), (2, (.own 1)), (3, (.fn 108 [] []))], [⟨0, 0, .row true 9 [.b .str]⟩, ⟨1, 0, .row true 87 KzT⟩]⟩
noncomputable def chart_spanned_Run_o : Exits := [(.ret, ⟨[.b .bool, .b (.int .u32), .b (.int .u32), .r [.b .str], .r KzT], 35, [(8, (.ptr 108 0)), (9, .v)], [⟨108, 0, .cells [.v, .v]⟩, ⟨0, 0, .row true 9 [.b .str]⟩, ⟨1, 0, .row true 87 KzT⟩]⟩)]
noncomputable def chart_spanned_Run_s : TSum := TSum.of (baseC (fun _ => none) (fun _ => [])) (Go.Proofs.Tryz.f107.results.toList) 2 chart_spanned_Run_i chart_spanned_Run_o (fun v => chart_spanned_Run v.1 v.2.1 v.2.2)
noncomputable def chart_spanned_Run_z : Code := Option.getD Go.Proofs.Tryz.f107.body .skip
noncomputable def chart_spanned_Run_x (gl : Glob) : TCtx := { baseC gl (lookS [(118, [chart_span_s]), (166, [chart_behind_Run_s])]) with inl := lookI [], fuel := 0, loops := lookL [], cuts := lookL [] }
theorem chart_spanned_Run_v {gl : Glob} (hg : Gs gl) : ValidS Go.Proofs.Tryz.prog gl 107 chart_spanned_Run_s := by
  refine validS_of (c := chart_spanned_Run_x gl) ?_ hm_ Go.Proofs.Tryz.func107 (body := chart_spanned_Run_z) ?_ ?_ ?_ ?_ ?_ ?_ ?_ ?_ ?_
  · exact tok_of tyB_ok cmpB_ok (.cons (.cons (chart_span_v hg) .nil) (hb_ 118 Go.Proofs.Tryz.func118 (by kernel_rfl) (by kernel_rfl)) (.cons (.cons (chart_behind_Run_v hg) .nil) (hb_ 166 Go.Proofs.Tryz.func166 (by kernel_rfl) (by kernel_rfl)) .nil)) .nil
  · kernel_rfl
  · rfl
  · exact annOK_by (l := []) (by kernel_rfl) (trivial)
  · exact fun (a0, a1, a2) => Eq.symm (by kernel_rfl)
  · kernel_rfl
  · kernel_rfl
  · exact exitX_of (.cons (fun v => by kernel_rfl) .nil)
  · rfl
  · rfl
noncomputable def chart_Runs_1_i : Pat := ⟨[.r [.b .str], .r KzT], 29, [(0, (.own 0)), (1, (.own 1))], [⟨0, 0, .row true 9 [.b .str]⟩, ⟨1, 0, .row true 87 KzT⟩]⟩
noncomputable def chart_Runs_1_o : Exits := [(.ret, ⟨[.b .bool, .b (.int .u32), .b (.int .u32), .b (.int .u32), .r [.b .str], .r KzT], 29, [(4, (.ptr 104 0)), (5, .v)], [⟨104, 0, .cells [.v, .v, .v]⟩, ⟨0, 0, .row true 9 [.b .str]⟩, ⟨1, 0, .row true 87 KzT⟩]⟩)]
noncomputable def chart_Runs_1_s : TSum := TSum.of (baseC (fun _ => none) (fun _ => [])) (Go.Proofs.Tryz.f106.results.toList) 2 chart_Runs_1_i chart_Runs_1_o (fun v => chart_Runs_1 v.1 v.2)
noncomputable def chart_Runs_1_z : Code := Option.getD Go.Proofs.Tryz.f106.body .skip
noncomputable def chart_Runs_1_x (gl : Glob) : TCtx := { baseC gl (lookS [(109, [chart_point_s]), (107, [chart_spanned_Run_s])]) with inl := lookI [], fuel := 0, loops := lookL [], cuts := lookL [] }
theorem chart_Runs_1_v {gl : Glob} (hg : Gs gl) : ValidS Go.Proofs.Tryz.prog gl 106 chart_Runs_1_s := by
  refine validS_of (c := chart_Runs_1_x gl) ?_ hm_ Go.Proofs.Tryz.func106 (body := chart_Runs_1_z) ?_ ?_ ?_ ?_ ?_ ?_ ?_ ?_ ?_
  · exact tok_of tyB_ok cmpB_ok (.cons (.cons (chart_point_v hg) .nil) (hb_ 109 Go.Proofs.Tryz.func109 (by kernel_rfl) (by kernel_rfl)) (.cons (.cons (chart_spanned_Run_v hg) .nil) (hb_ 107 Go.Proofs.Tryz.func107 (by kernel_rfl) (by kernel_rfl)) .nil)) .nil
  · kernel_rfl
  · rfl
  · exact annOK_by (l := []) (by kernel_rfl) (trivial)
  · exact fun (a0, a1) => Eq.symm (by kernel_rfl)
  · kernel_rfl
  · kernel_rfl
  · exact exitX_of (.cons (fun v => by kernel_rfl) .nil)
  · rfl
  · rfl
noncomputable def chart_read_Run_l5 : Loop1 := ⟨⟨[.b (.int .i64), .b (.int .i64), .r [.b .str], .r KzT], 40, [(1, (.fn 106 [] [])), (7, (.own 5000)), (15, (.own 1150)), (16, .v), (17, .v)], [⟨1150, 0, .row true 9 [.b .str]⟩, ⟨5000, 0, .row true 87 KzT⟩]⟩, [(.exit 0, ⟨[.r KzT], 40, [(7, (.own 5000))], [⟨5000, 0, .row true 87 KzT⟩]⟩), (.ret, ⟨[.b (.int .i64), .b (.int .i64)], 40, [(4, (.lit (.slice none 0 0))), (5, .v), (6, .v)], []⟩)], chart_read_Run_b5⟩
noncomputable def chart_read_Run_i : Pat := ⟨[.b .str], 40, [(0, .v), (1, (.fn 106 [] []))], []⟩
noncomputable def chart_read_Run_o : Exits := [(.ret, ⟨[.b (.int .i64), .b (.int .i64), .r KzT], 40, [(4, (.own 5000)), (5, .v), (6, .v)], [⟨5000, 0, .row true 87 KzT⟩]⟩)]
noncomputable def chart_read_Run_s : TSum := TSum.of (baseC (fun _ => none) (fun _ => [])) (Go.Proofs.Tryz.f105.results.toList) 0 chart_read_Run_i chart_read_Run_o (fun v => chart_read_Run v)
noncomputable def chart_read_Run_z : Code := Option.getD Go.Proofs.Tryz.f105.body .skip
noncomputable def chart_read_Run_x (gl : Glob) : TCtx := { baseC gl (lookS [(159, [strings_Split_s]), (106, [chart_Runs_1_s])]) with inl := lookI [], fuel := 0, loops := lookL [(5, chart_read_Run_l5)], cuts := lookL [] }
theorem chart_read_Run_v {gl : Glob} (hg : Gs gl) : ValidS Go.Proofs.Tryz.prog gl 105 chart_read_Run_s := by
  refine validS_of (c := chart_read_Run_x gl) ?_ hm_ Go.Proofs.Tryz.func105 (body := chart_read_Run_z) ?_ ?_ ?_ ?_ ?_ ?_ ?_ ?_ ?_
  · exact tok_of tyB_ok cmpB_ok (.cons (.cons (strings_Split_v hg) .nil) (hb_ 159 Go.Proofs.Tryz.func159 (by kernel_rfl) (by kernel_rfl)) (.cons (.cons (chart_Runs_1_v hg) .nil) (hb_ 106 Go.Proofs.Tryz.func106 (by kernel_rfl) (by kernel_rfl)) .nil)) .nil
  · kernel_rfl
  · rfl
  · exact annOK_by (l := [∀ v, chart_read_Run_l5.body v = (roundT (chart_read_Run_x gl) chart_read_Run_l5.pat chart_read_Run_l5.exits (subAt [1, 1, 1, 0, 1, 0, 0] chart_read_Run_z) v).run]) (by kernel_rfl) (⟨fun (a0, a1, a2, a3) => Eq.symm (by kernel_rfl), trivial⟩)
  · exact fun v => Eq.symm (by kernel_rfl)
  · kernel_rfl
  · kernel_rfl
  · exact exitX_of (.cons (fun v => by kernel_rfl) .nil)
  · rfl
  · rfl
noncomputable def chart_Runs_i : Pat := ⟨[.b .str], 10, [(0, .v)], []⟩
noncomputable def chart_Runs_o : Exits := [(.ret, ⟨[.b (.int .i64), .b (.int .i64), .r KzT], 10, [(2, (.own 1060)), (3, .v), (4, .v)], [⟨1060, 0, .row true 87 KzT⟩]⟩)]
noncomputable def chart_Runs_s : TSum := TSum.of (baseC (fun _ => none) (fun _ => [])) (Go.Proofs.Tryz.f46.results.toList) 0 chart_Runs_i chart_Runs_o (fun v => chart_Runs v)
noncomputable def chart_Runs_z : Code := Option.getD Go.Proofs.Tryz.f46.body .skip
noncomputable def chart_Runs_x (gl : Glob) : TCtx := { baseC gl (lookS [(105, [chart_read_Run_s])]) with inl := lookI [], fuel := 0, loops := lookL [], cuts := lookL [] }
theorem chart_Runs_v {gl : Glob} (hg : Gs gl) : ValidS Go.Proofs.Tryz.prog gl 46 chart_Runs_s := by
  refine validS_of (c := chart_Runs_x gl) ?_ hm_ Go.Proofs.Tryz.func46 (body := chart_Runs_z) ?_ ?_ ?_ ?_ ?_ ?_ ?_ ?_ ?_
  · exact tok_of tyB_ok cmpB_ok (.cons (.cons (chart_read_Run_v hg) .nil) (hb_ 105 Go.Proofs.Tryz.func105 (by kernel_rfl) (by kernel_rfl)) .nil) .nil
  · kernel_rfl
  · rfl
  · exact annOK_by (l := []) (by kernel_rfl) (trivial)
  · exact fun v => Eq.symm (by kernel_rfl)
  · kernel_rfl
  · kernel_rfl
  · exact exitX_of (.cons (fun v => by kernel_rfl) .nil)
  · rfl
  · rfl
noncomputable def chart_Sets_1_i : Pat := ⟨[.r [.b .str], .r KzN], 35, [(0, (.own 0)), (1, (.own 1))], [⟨0, 0, .row true 9 [.b .str]⟩, ⟨1, 0, .row true 100 KzN⟩]⟩
noncomputable def chart_Sets_1_o : Exits := [(.ret, ⟨[.b .bool, .b .str, .b (.int .u32), .b (.int .u32), .r [.b .str], .r KzN], 35, [(4, (.ptr 104 0)), (5, .v)], [⟨104, 0, .cells [.v, .v, .v]⟩, ⟨0, 0, .row true 9 [.b .str]⟩, ⟨1, 0, .row true 100 KzN⟩]⟩)]
noncomputable def chart_Sets_1_s : TSum := TSum.of (baseC (fun _ => none) (fun _ => [])) (Go.Proofs.Tryz.f117.results.toList) 2 chart_Sets_1_i chart_Sets_1_o (fun v => chart_Sets_1 v.1 v.2)
noncomputable def chart_Sets_1_z : Code := Option.getD Go.Proofs.Tryz.f117.body .skip
noncomputable def chart_Sets_1_x (gl : Glob) : TCtx := { baseC gl (lookS [(100, [chart_made_s]), (118, [chart_span_s])]) with inl := lookI [], fuel := 0, loops := lookL [], cuts := lookL [] }
theorem chart_Sets_1_v {gl : Glob} (hg : Gs gl) : ValidS Go.Proofs.Tryz.prog gl 117 chart_Sets_1_s := by
  refine validS_of (c := chart_Sets_1_x gl) ?_ hm_ Go.Proofs.Tryz.func117 (body := chart_Sets_1_z) ?_ ?_ ?_ ?_ ?_ ?_ ?_ ?_ ?_
  · exact tok_of tyB_ok cmpB_ok (.cons (.cons (chart_made_v hg) .nil) (hb_ 100 Go.Proofs.Tryz.func100 (by kernel_rfl) (by kernel_rfl)) (.cons (.cons (chart_span_v hg) .nil) (hb_ 118 Go.Proofs.Tryz.func118 (by kernel_rfl) (by kernel_rfl)) .nil)) .nil
  · kernel_rfl
  · rfl
  · exact annOK_by (l := []) (by kernel_rfl) (trivial)
  · exact fun (a0, a1) => Eq.symm (by kernel_rfl)
  · kernel_rfl
  · kernel_rfl
  · exact exitX_of (.cons (fun v => by kernel_rfl) .nil)
  · rfl
  · rfl
noncomputable def chart_read_Named_l5 : Loop1 := ⟨⟨[.b (.int .i64), .b (.int .i64), .r [.b .str], .r KzN], 40, [(1, (.fn 117 [] [])), (7, (.own 5000)), (15, (.own 1150)), (16, .v), (17, .v)], [⟨1150, 0, .row true 9 [.b .str]⟩, ⟨5000, 0, .row true 100 KzN⟩]⟩, [(.exit 0, ⟨[.r KzN], 40, [(7, (.own 5000))], [⟨5000, 0, .row true 100 KzN⟩]⟩), (.ret, ⟨[.b (.int .i64), .b (.int .i64)], 40, [(4, (.lit (.slice none 0 0))), (5, .v), (6, .v)], []⟩)], chart_read_Named_b5⟩
noncomputable def chart_read_Named_i : Pat := ⟨[.b .str], 40, [(0, .v), (1, (.fn 117 [] []))], []⟩
noncomputable def chart_read_Named_o : Exits := [(.ret, ⟨[.b (.int .i64), .b (.int .i64), .r KzN], 40, [(4, (.own 5000)), (5, .v), (6, .v)], [⟨5000, 0, .row true 100 KzN⟩]⟩)]
noncomputable def chart_read_Named_s : TSum := TSum.of (baseC (fun _ => none) (fun _ => [])) (Go.Proofs.Tryz.f116.results.toList) 0 chart_read_Named_i chart_read_Named_o (fun v => chart_read_Named v)
noncomputable def chart_read_Named_z : Code := Option.getD Go.Proofs.Tryz.f116.body .skip
noncomputable def chart_read_Named_x (gl : Glob) : TCtx := { baseC gl (lookS [(159, [strings_Split_s]), (117, [chart_Sets_1_s])]) with inl := lookI [], fuel := 0, loops := lookL [(5, chart_read_Named_l5)], cuts := lookL [] }
theorem chart_read_Named_v {gl : Glob} (hg : Gs gl) : ValidS Go.Proofs.Tryz.prog gl 116 chart_read_Named_s := by
  refine validS_of (c := chart_read_Named_x gl) ?_ hm_ Go.Proofs.Tryz.func116 (body := chart_read_Named_z) ?_ ?_ ?_ ?_ ?_ ?_ ?_ ?_ ?_
  · exact tok_of tyB_ok cmpB_ok (.cons (.cons (strings_Split_v hg) .nil) (hb_ 159 Go.Proofs.Tryz.func159 (by kernel_rfl) (by kernel_rfl)) (.cons (.cons (chart_Sets_1_v hg) .nil) (hb_ 117 Go.Proofs.Tryz.func117 (by kernel_rfl) (by kernel_rfl)) .nil)) .nil
  · kernel_rfl
  · rfl
  · exact annOK_by (l := [∀ v, chart_read_Named_l5.body v = (roundT (chart_read_Named_x gl) chart_read_Named_l5.pat chart_read_Named_l5.exits (subAt [1, 1, 1, 0, 1, 0, 0] chart_read_Named_z) v).run]) (by kernel_rfl) (⟨fun (a0, a1, a2, a3) => Eq.symm (by kernel_rfl), trivial⟩)
  · exact fun v => Eq.symm (by kernel_rfl)
  · kernel_rfl
  · kernel_rfl
  · exact exitX_of (.cons (fun v => by kernel_rfl) .nil)
  · rfl
  · rfl
noncomputable def chart_Sets_i : Pat := ⟨[.b .str], 10, [(0, .v)], []⟩
noncomputable def chart_Sets_o : Exits := [(.ret, ⟨[.b (.int .i64), .b (.int .i64), .r KzN], 10, [(2, (.own 1060)), (3, .v), (4, .v)], [⟨1060, 0, .row true 100 KzN⟩]⟩)]
noncomputable def chart_Sets_s : TSum := TSum.of (baseC (fun _ => none) (fun _ => [])) (Go.Proofs.Tryz.f51.results.toList) 0 chart_Sets_i chart_Sets_o (fun v => chart_Sets v)
noncomputable def chart_Sets_z : Code := Option.getD Go.Proofs.Tryz.f51.body .skip
noncomputable def chart_Sets_x (gl : Glob) : TCtx := { baseC gl (lookS [(116, [chart_read_Named_s])]) with inl := lookI [], fuel := 0, loops := lookL [], cuts := lookL [] }
theorem chart_Sets_v {gl : Glob} (hg : Gs gl) : ValidS Go.Proofs.Tryz.prog gl 51 chart_Sets_s := by
  refine validS_of (c := chart_Sets_x gl) ?_ hm_ Go.Proofs.Tryz.func51 (body := chart_Sets_z) ?_ ?_ ?_ ?_ ?_ ?_ ?_ ?_ ?_
  · exact tok_of tyB_ok cmpB_ok (.cons (.cons (chart_read_Named_v hg) .nil) (hb_ 116 Go.Proofs.Tryz.func116 (by kernel_rfl) (by kernel_rfl)) .nil) .nil
  · kernel_rfl
  · rfl
  · exact annOK_by (l := []) (by kernel_rfl) (trivial)
  · exact fun v => Eq.symm (by kernel_rfl)
  · kernel_rfl
  · kernel_rfl
  · exact exitX_of (.cons (fun v => by kernel_rfl) .nil)
  · rfl
  · rfl
end Go.Tx
