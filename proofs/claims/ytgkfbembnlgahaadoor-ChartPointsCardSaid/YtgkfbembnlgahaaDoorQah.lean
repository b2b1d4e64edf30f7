/- Part 8 of the proof of the statement that the last part names; it asks for no condition of its own. Here: GenChB. -/
import Derived.Test.YtgkfbembnlgahaaDoorQag
set_option linter.all false
set_option linter.unusedVariables false
set_option maxRecDepth 100000
set_option maxHeartbeats 0
namespace Go.Tx
open Go Go.Sx
noncomputable def chart_cutLeft_l2 : Loop1 := ⟨⟨[.b .str, .b .str, .b .str, .n], 32, [(0, .v), (1, .v), (11, (.ptr 111 0))], [⟨111, 0, .str⟩]⟩, [(.exit 0, ⟨[], 32, [], []⟩), (.ret, ⟨[.b .str], 32, [(4, .v)], []⟩)], chart_cutLeft_b2⟩
noncomputable def chart_cutLeft_l6 : Loop1 := ⟨⟨[.b .str, .b .str, .b (.int .i64), .b (.int .i32), .b .bool, .b .str, .n, .b .str, .n], 32, [(0, .v), (1, .v), (5, .v), (6, .v), (7, .v), (11, (.ptr 111 0)), (17, (.ptr 117 0))], [⟨111, 0, .str⟩, ⟨117, 0, .str⟩]⟩, [(.exit 2, ⟨[.b .str, .b .str, .b (.int .i64), .b .bool, .b .str, .n], 32, [(0, .v), (1, .v), (5, .v), (7, .v), (11, (.ptr 111 0))], [⟨111, 0, .str⟩]⟩)], chart_cutLeft_b6⟩
noncomputable def chart_cutLeft_i : Pat := ⟨[.b .str, .b .str], 32, [(0, .v), (1, .v)], []⟩
noncomputable def chart_cutLeft_o : Exits := [(.ret, ⟨[.b .str], 32, [(4, .v)], []⟩)]
noncomputable def chart_cutLeft_s : TSum := TSum.of (baseC (fun _ => none) (fun _ => [])) (Go.Proofs.Tryd.f36.results.toList) 0 chart_cutLeft_i chart_cutLeft_o (fun v => chart_cutLeft v.1 v.2)
noncomputable def chart_cutLeft_z : Code := Option.getD Go.Proofs.Tryd.f36.body .skip
noncomputable def chart_cutLeft_x (gl : Glob) : TCtx := { baseC gl (lookS []) with inl := lookI [], fuel := 0, loops := lookL [(2, chart_cutLeft_l2), (6, chart_cutLeft_l6)], cuts := lookL [] }
theorem chart_cutLeft_v {gl : Glob} (hg : Gs gl) : ValidS Go.Proofs.Tryd.prog gl 36 chart_cutLeft_s := by
  refine validS_of (c := chart_cutLeft_x gl) ?_ hm_ Go.Proofs.Tryd.func36 (body := chart_cutLeft_z) ?_ ?_ ?_ ?_ ?_ ?_ ?_ ?_ ?_
  · exact tok_of tyB_ok cmpB_ok .nil .nil
  · kernel_rfl
  · rfl
  · exact annOK_by (l := [∀ v, chart_cutLeft_l6.body v = (roundT (chart_cutLeft_x gl) chart_cutLeft_l6.pat chart_cutLeft_l6.exits (subAt [1, 0, 1, 0, 0, 1, 1, 0, 1, 1, 0, 1, 0, 0] chart_cutLeft_z) v).run, ∀ v, chart_cutLeft_l2.body v = (roundT (chart_cutLeft_x gl) chart_cutLeft_l2.pat chart_cutLeft_l2.exits (subAt [1, 0, 1, 0, 0] chart_cutLeft_z) v).run]) (by kernel_rfl) (⟨fun (a0, a1, a2, a3, a4, a5, a6, a7, a8) => Eq.symm (by kernel_rfl), fun (a0, a1, a2, a3) => Eq.symm (by kernel_rfl), trivial⟩)
  · exact fun (a0, a1) => Eq.symm (by kernel_rfl)
  · kernel_rfl
  · kernel_rfl
  · exact exitX_of (.cons (fun v => by kernel_rfl) .nil)
  · rfl
  · rfl
noncomputable def chart_cutRight_l1 : Loop1 := ⟨⟨[.b .str, .b .str], 39, [(0, .v), (1, .v)], []⟩, [(.exit 0, ⟨[.b .str], 39, [(0, .v)], []⟩), (.ret, ⟨[.b .str], 39, [(4, .v)], []⟩)], chart_cutRight_b1⟩
noncomputable def chart_cutRight_l5 : Loop1 := ⟨⟨[.b .str, .b .str, .b (.int .i32), .b (.int .i64), .b .bool, .b .str, .n], 39, [(0, .v), (1, .v), (5, .v), (6, .v), (7, .v), (19, (.ptr 119 0))], [⟨119, 0, .str⟩]⟩, [(.exit 2, ⟨[.b .str, .b .str, .b (.int .i64), .b .bool], 39, [(0, .v), (1, .v), (6, .v), (7, .v)], []⟩)], chart_cutRight_b5⟩
noncomputable def chart_cutRight_i : Pat := ⟨[.b .str, .b .str], 39, [(0, .v), (1, .v)], []⟩
noncomputable def chart_cutRight_o : Exits := [(.ret, ⟨[.b .str], 39, [(4, .v)], []⟩)]
noncomputable def chart_cutRight_s : TSum := TSum.of (baseC (fun _ => none) (fun _ => [])) (Go.Proofs.Tryd.f35.results.toList) 0 chart_cutRight_i chart_cutRight_o (fun v => chart_cutRight v.1 v.2)
noncomputable def chart_cutRight_z : Code := Option.getD Go.Proofs.Tryd.f35.body .skip
noncomputable def chart_cutRight_x (gl : Glob) : TCtx := { baseC gl (lookS [(57, [utf8_DecodeLastRuneInString_s])]) with inl := lookI [], fuel := 0, loops := lookL [(1, chart_cutRight_l1), (5, chart_cutRight_l5)], cuts := lookL [] }
theorem chart_cutRight_v {gl : Glob} (hg : Gs gl) : ValidS Go.Proofs.Tryd.prog gl 35 chart_cutRight_s := by
  refine validS_of (c := chart_cutRight_x gl) ?_ hm_ Go.Proofs.Tryd.func35 (body := chart_cutRight_z) ?_ ?_ ?_ ?_ ?_ ?_ ?_ ?_ ?_
  · exact tok_of tyB_ok cmpB_ok (.cons (.cons (utf8_DecodeLastRuneInString_v hg) .nil) (hb_ 57 Go.Proofs.Tryd.func57 (by kernel_rfl) (by kernel_rfl)) .nil) .nil
  · kernel_rfl
  · rfl
  · exact annOK_by (l := [∀ v, chart_cutRight_l5.body v = (roundT (chart_cutRight_x gl) chart_cutRight_l5.pat chart_cutRight_l5.exits (subAt [1, 0, 0, 0, 1, 0, 1, 1, 0, 1, 0, 0] chart_cutRight_z) v).run, ∀ v, chart_cutRight_l1.body v = (roundT (chart_cutRight_x gl) chart_cutRight_l1.pat chart_cutRight_l1.exits (subAt [1, 0, 0, 0] chart_cutRight_z) v).run]) (by kernel_rfl) (⟨fun (a0, a1, a2, a3, a4, a5, a6) => Eq.symm (by kernel_rfl), fun (a0, a1) => Eq.symm (by kernel_rfl), trivial⟩)
  · exact fun (a0, a1) => Eq.symm (by kernel_rfl)
  · kernel_rfl
  · kernel_rfl
  · exact exitX_of (.cons (fun v => by kernel_rfl) .nil)
  · rfl
  · rfl
noncomputable def chart_made_i : Pat := ⟨[.b .str, .b .str, .b (.int .i64), .b (.int .i64)], 27, [(0, .v), (1, .v), (2, .v), (3, .v)], []⟩
noncomputable def chart_made_o : Exits := [(.ret, ⟨[.b .bool], 27, [(8, .v)], []⟩)]
noncomputable def chart_made_s : TSum := TSum.of (baseC (fun _ => none) (fun _ => [])) (Go.Proofs.Tryd.f16.results.toList) 0 chart_made_i chart_made_o (fun v => chart_made v.1 v.2.1 v.2.2.1 v.2.2.2)
noncomputable def chart_made_z : Code := Option.getD Go.Proofs.Tryd.f16.body .skip
noncomputable def chart_made_x (gl : Glob) : TCtx := { baseC gl (lookS [(36, [chart_cutLeft_s]), (35, [chart_cutRight_s])]) with inl := lookI [], fuel := 0, loops := lookL [], cuts := lookL [] }
theorem chart_made_v {gl : Glob} (hg : Gs gl) : ValidS Go.Proofs.Tryd.prog gl 16 chart_made_s := by
  refine validS_of (c := chart_made_x gl) ?_ hm_ Go.Proofs.Tryd.func16 (body := chart_made_z) ?_ ?_ ?_ ?_ ?_ ?_ ?_ ?_ ?_
  · exact tok_of tyB_ok cmpB_ok (.cons (.cons (chart_cutLeft_v hg) .nil) (hb_ 36 Go.Proofs.Tryd.func36 (by kernel_rfl) (by kernel_rfl)) (.cons (.cons (chart_cutRight_v hg) .nil) (hb_ 35 Go.Proofs.Tryd.func35 (by kernel_rfl) (by kernel_rfl)) .nil)) .nil
  · kernel_rfl
  · rfl
  · exact annOK_by (l := []) (by kernel_rfl) (trivial)
  · exact fun (a0, a1, a2, a3) => Eq.symm (by kernel_rfl)
  · kernel_rfl
  · kernel_rfl
  · exact exitX_of (.cons (fun v => by kernel_rfl) .nil)
  · rfl
  · rfl
noncomputable def internal_strconv_lower_i : Pat := ⟨[.b (.int .u8)], 5, [(0, .v)], []⟩
noncomputable def internal_strconv_lower_o : Exits := [(.ret, ⟨[.b (.int .u8)], 5, [(2, .v)], []⟩)]
noncomputable def internal_strconv_lower_s : TSum := TSum.of (baseC (fun _ => none) (fun _ => [])) (Go.Proofs.Tryd.f78.results.toList) 0 internal_strconv_lower_i internal_strconv_lower_o (fun v => internal_strconv_lower v)
noncomputable def internal_strconv_lower_z : Code := Option.getD Go.Proofs.Tryd.f78.body .skip
noncomputable def internal_strconv_lower_x (gl : Glob) : TCtx := { baseC gl (lookS []) with inl := lookI [], fuel := 0, loops := lookL [], cuts := lookL [] }
theorem internal_strconv_lower_v {gl : Glob} (hg : Gs gl) : ValidS Go.Proofs.Tryd.prog gl 78 internal_strconv_lower_s := by
  refine validS_of (c := internal_strconv_lower_x gl) ?_ hm_ Go.Proofs.Tryd.func78 (body := internal_strconv_lower_z) ?_ ?_ ?_ ?_ ?_ ?_ ?_ ?_ ?_
  · exact tok_of tyB_ok cmpB_ok .nil .nil
  · kernel_rfl
  · rfl
  · exact annOK_by (l := []) (by kernel_rfl) (trivial)
  · exact fun v => Eq.symm (by kernel_rfl)
  · kernel_rfl
  · kernel_rfl
  · exact exitX_of (.cons (fun v => by kernel_rfl) .nil)
  · rfl
  · rfl
noncomputable def internal_strconv_ParseUint_l36 : Loop1 := ⟨⟨[.b .bool, .b .str, .b .bool, .b (.int .u64), .b (.int .i64), .b (.int .i64), .r [.b (.int .u8)]], 172, [(1, (.lit (.int .i64 16))), (8, .v), (9, .v), (10, (.lit (.int .u64 1152921504606846976))), (11, (.lit (.int .u64 4294967295))), (12, .v), (13, .v), (99, (.own 199)), (100, .v), (101, .v)], [⟨199, 0, .row false 5 [.b (.int .u8)]⟩]⟩, [(.ret, ⟨[.b (.int .u64)], 172, [(6, .v), (7, .ifc)], []⟩), (.exit 3, ⟨[.b .str, .b .bool, .b (.int .u64)], 172, [(9, .v), (12, .v), (13, .v)], []⟩)], internal_strconv_ParseUint_b36⟩
noncomputable def internal_strconv_ParseUint_i : Pat := ⟨[.b .str], 172, [(0, .v), (1, (.lit (.int .i64 16))), (2, (.lit (.int .i64 32)))], []⟩
noncomputable def internal_strconv_ParseUint_o : Exits := [(.ret, ⟨[.b (.int .u64)], 172, [(6, .v), (7, .ifc)], []⟩), (.ret, ⟨[.b (.int .u64)], 172, [(6, .v), (7, (.lit .nilIface))], []⟩)]
noncomputable def internal_strconv_ParseUint_s : TSum := TSum.of (baseC (fun _ => none) (fun _ => [])) (Go.Proofs.Tryd.f58.results.toList) 0 internal_strconv_ParseUint_i internal_strconv_ParseUint_o (fun v => internal_strconv_ParseUint v)
noncomputable def internal_strconv_ParseUint_z : Code := Option.getD Go.Proofs.Tryd.f58.body .skip
noncomputable def internal_strconv_ParseUint_x (gl : Glob) : TCtx := { baseC gl (lookS [(78, [internal_strconv_lower_s])]) with inl := lookI [], fuel := 0, loops := lookL [(36, internal_strconv_ParseUint_l36)], cuts := lookL [] }
theorem internal_strconv_ParseUint_v {gl : Glob} (hg : Gs gl) : ValidS Go.Proofs.Tryd.prog gl 58 internal_strconv_ParseUint_s := by
  refine validS_of (c := internal_strconv_ParseUint_x gl) ?_ hm_ Go.Proofs.Tryd.func58 (body := internal_strconv_ParseUint_z) ?_ ?_ ?_ ?_ ?_ ?_ ?_ ?_ ?_
  · exact tok_of tyB_ok cmpB_ok (.cons (.cons (internal_strconv_lower_v hg) .nil) (hb_ 78 Go.Proofs.Tryd.func78 (by kernel_rfl) (by kernel_rfl)) .nil) .nil
  · kernel_rfl
  · rfl
  · exact annOK_by (l := [∀ v, internal_strconv_ParseUint_l36.body v = (roundT (internal_strconv_ParseUint_x gl) internal_strconv_ParseUint_l36.pat internal_strconv_ParseUint_l36.exits (subAt [1, 1, 1, 1, 1, 1, 1, 1, 1, 1, 1, 0, 1, 0, 0] internal_strconv_ParseUint_z) v).run]) (by kernel_rfl) (⟨fun (a0, a1, a2, a3, a4, a5, a6) => Eq.symm (by kernel_rfl), trivial⟩)
  · exact fun v => Eq.symm (by kernel_rfl)
  · kernel_rfl
  · kernel_rfl
  · exact exitX_of (.cons (fun v => by kernel_rfl) (.cons (fun v => by kernel_rfl) .nil))
  · rfl
  · rfl
noncomputable def strconv_ParseUint_i : Pat := ⟨[.b .str], 26, [(0, .v), (1, (.lit (.int .i64 16))), (2, (.lit (.int .i64 32)))], []⟩
noncomputable def strconv_ParseUint_o : Exits := [(.ret, ⟨[.b (.int .u64)], 26, [(6, .v), (7, (.lit .nilIface))], []⟩)]
noncomputable def strconv_ParseUint_s : TSum := TSum.of (baseC (fun _ => none) (fun _ => [])) (Go.Proofs.Tryd.f37.results.toList) 0 strconv_ParseUint_i strconv_ParseUint_o (fun v => strconv_ParseUint v)
noncomputable def strconv_ParseUint_z : Code := Option.getD Go.Proofs.Tryd.f37.body .skip
noncomputable def strconv_ParseUint_x (gl : Glob) : TCtx := { baseC gl (lookS [(58, [internal_strconv_ParseUint_s])]) with inl := lookI [], fuel := 0, loops := lookL [], cuts := lookL [] }
theorem strconv_ParseUint_v {gl : Glob} (hg : Gs gl) : ValidS Go.Proofs.Tryd.prog gl 37 strconv_ParseUint_s := by
  refine validS_of (c := strconv_ParseUint_x gl) ?_ hm_ Go.Proofs.Tryd.func37 (body := strconv_ParseUint_z) ?_ ?_ ?_ ?_ ?_ ?_ ?_ ?_ ?_
  · exact tok_of tyB_ok cmpB_ok (.cons (.cons (internal_strconv_ParseUint_v hg) .nil) (hb_ 58 Go.Proofs.Tryd.func58 (by kernel_rfl) (by kernel_rfl)) .nil) .nil
  · kernel_rfl
  · rfl
  · exact annOK_by (l := []) (by kernel_rfl) (trivial)
  · exact fun v => Eq.symm (by kernel_rfl)
  · kernel_rfl
  · kernel_rfl
  · exact exitX_of (.cons (fun v => by kernel_rfl) .nil)
  · rfl
  · rfl
noncomputable def chart_point_i : Pat := ⟨[.b .str], 32, [(0, .v)], []⟩
noncomputable def chart_point_o : Exits := [(.ret, ⟨[.b (.int .u32), .b .bool], 32, [(2, .v), (3, .v)], []⟩)]
noncomputable def chart_point_s : TSum := TSum.of (baseC (fun _ => none) (fun _ => [])) (Go.Proofs.Tryd.f17.results.toList) 0 chart_point_i chart_point_o (fun v => chart_point v)
noncomputable def chart_point_z : Code := Option.getD Go.Proofs.Tryd.f17.body .skip
noncomputable def chart_point_x (gl : Glob) : TCtx := { baseC gl (lookS [(16, [chart_made_s]), (37, [strconv_ParseUint_s])]) with inl := lookI [], fuel := 0, loops := lookL [], cuts := lookL [] }
theorem chart_point_v {gl : Glob} (hg : Gs gl) : ValidS Go.Proofs.Tryd.prog gl 17 chart_point_s := by
  refine validS_of (c := chart_point_x gl) ?_ hm_ Go.Proofs.Tryd.func17 (body := chart_point_z) ?_ ?_ ?_ ?_ ?_ ?_ ?_ ?_ ?_
  · exact tok_of tyB_ok cmpB_ok (.cons (.cons (chart_made_v hg) .nil) (hb_ 16 Go.Proofs.Tryd.func16 (by kernel_rfl) (by kernel_rfl)) (.cons (.cons (strconv_ParseUint_v hg) .nil) (hb_ 37 Go.Proofs.Tryd.func37 (by kernel_rfl) (by kernel_rfl)) .nil)) .nil
  · kernel_rfl
  · rfl
  · exact annOK_by (l := []) (by kernel_rfl) (trivial)
  · exact fun v => Eq.symm (by kernel_rfl)
  · kernel_rfl
  · kernel_rfl
  · exact exitX_of (.cons (fun v => by kernel_rfl) .nil)
  · rfl
  · rfl
noncomputable def chart_span_i : Pat := ⟨[.b .str, .b .str], 32, [(0, .v), (1, .v)], []⟩
noncomputable def chart_span_o : Exits := [(.ret, ⟨[.b .bool, .b (.int .u32), .b (.int .u32)], 32, [(4, (.ptr 104 0)), (5, .v)], [⟨104, 0, .cells [.v, .v]⟩]⟩)]
noncomputable def chart_span_s : TSum := TSum.of (baseC (fun _ => none) (fun _ => [])) (Go.Proofs.Tryd.f38.results.toList) 0 chart_span_i chart_span_o (fun v => chart_span v.1 v.2)
noncomputable def chart_span_z : Code := Option.getD Go.Proofs.Tryd.f38.body .skip
noncomputable def chart_span_x (gl : Glob) : TCtx := { baseC gl (lookS [(17, [chart_point_s])]) with inl := lookI [], fuel := 0, loops := lookL [], cuts := lookL [] }
theorem chart_span_v {gl : Glob} (hg : Gs gl) : ValidS Go.Proofs.Tryd.prog gl 38 chart_span_s := by
  refine validS_of (c := chart_span_x gl) ?_ hm_ Go.Proofs.Tryd.func38 (body := chart_span_z) ?_ ?_ ?_ ?_ ?_ ?_ ?_ ?_ ?_
  · exact tok_of tyB_ok cmpB_ok (.cons (.cons (chart_point_v hg) .nil) (hb_ 17 Go.Proofs.Tryd.func17 (by kernel_rfl) (by kernel_rfl)) .nil) .nil
  · kernel_rfl
  · rfl
  · exact annOK_by (l := []) (by kernel_rfl) (trivial)
  · exact fun (a0, a1) => Eq.symm (by kernel_rfl)
  · kernel_rfl
  · kernel_rfl
  · exact exitX_of (.cons (fun v => by kernel_rfl) .nil)
  · rfl
  · rfl
noncomputable def chart_Classes_1_1_i : Pat := ⟨[.b (.int .u32), .b (.int .u32), .b (.int .u32)], 5, [(0, (.agg [.v, .v, .v]))], []⟩
noncomputable def chart_Classes_1_1_o : Exits := [(.ret, ⟨[.b (.int .u32), .b (.int .u32)], 5, [(2, (.ptr 102 0))], [⟨102, 0, .cells [.v, .v]⟩]⟩)]
noncomputable def chart_Classes_1_1_s : TSum := TSum.of (baseC (fun _ => none) (fun _ => [])) (Go.Proofs.Tryd.f22.results.toList) 0 chart_Classes_1_1_i chart_Classes_1_1_o (fun v => chart_Classes_1_1 v.1 v.2.1 v.2.2)
noncomputable def chart_Classes_1_1_z : Code := Option.getD Go.Proofs.Tryd.f22.body .skip
noncomputable def chart_Classes_1_1_x (gl : Glob) : TCtx := { baseC gl (lookS []) with inl := lookI [], fuel := 0, loops := lookL [], cuts := lookL [] }
theorem chart_Classes_1_1_v {gl : Glob} (hg : Gs gl) : ValidS Go.Proofs.Tryd.prog gl 22 chart_Classes_1_1_s := by
  refine validS_of (c := chart_Classes_1_1_x gl) ?_ hm_ Go.Proofs.Tryd.func22 (body := chart_Classes_1_1_z) ?_ ?_ ?_ ?_ ?_ ?_ ?_ ?_ ?_
  · exact tok_of tyB_ok cmpB_ok .nil .nil
  · kernel_rfl
  · rfl
  · exact annOK_by (l := []) (by kernel_rfl) (trivial)
  · exact fun (a0, a1, a2) => Eq.symm (by kernel_rfl)
  · kernel_rfl
  · kernel_rfl
  · exact exitX_of (.cons (fun v => by kernel_rfl) .nil)
  · rfl
  · rfl
noncomputable def chart_behind_Weight_i : Pat := ⟨[.b (.int .u32), .b (.int .u32), .r KzT], 24, [(0, (.own 0)), (1, (.agg [.v, .v])), (2, (.fn 22 [] []))], [⟨0, 0, .row true 40 KzT⟩]⟩
noncomputable def chart_behind_Weight_o : Exits := [(.ret, ⟨[.b .bool, .r KzT], 24, [(6, .v)], [⟨0, 0, .row true 40 KzT⟩]⟩)]
noncomputable def chart_behind_Weight_s : TSum := TSum.of (baseC (fun _ => none) (fun _ => [])) (Go.Proofs.Tryd.f39.results.toList) 1 chart_behind_Weight_i chart_behind_Weight_o (fun v => chart_behind_Weight v.1 v.2.1 v.2.2)
noncomputable def chart_behind_Weight_z : Code := Option.getD Go.Proofs.Tryd.f39.body .skip
noncomputable def chart_behind_Weight_x (gl : Glob) : TCtx := { baseC gl (lookS [(22, [chart_Classes_1_1_s])]) with inl := lookI [], fuel := 0, loops := lookL [], cuts := lookL [] }
theorem chart_behind_Weight_v {gl : Glob} (hg : Gs gl) : ValidS Go.Proofs.Tryd.prog gl 39 chart_behind_Weight_s := by
  refine validS_of (c := chart_behind_Weight_x gl) ?_ hm_ Go.Proofs.Tryd.func39 (body := chart_behind_Weight_z) ?_ ?_ ?_ ?_ ?_ ?_ ?_ ?_ ?_
  · exact tok_of tyB_ok cmpB_ok (.cons (.cons (chart_Classes_1_1_v hg) .nil) (hb_ 22 Go.Proofs.Tryd.func22 (by kernel_rfl) (by kernel_rfl)) .nil) .nil
  · kernel_rfl
  · rfl
  · exact annOK_by (l := []) (by kernel_rfl) (trivial)
  · exact fun (a0, a1, a2) => Eq.symm (by kernel_rfl)
  · kernel_rfl
  · kernel_rfl
  · exact exitX_of (.cons (fun v => by kernel_rfl) .nil)
  · rfl
  · rfl
noncomputable def chart_spanned_Weight_i : Pat := ⟨[.b (.int .i64), .r [.b .str], .r KzT], 35, [(0, (.own 0)), (1, .v), (2, (.own 1)), (3, (.fn 22 [] []))], [⟨0, 0, .row true 9 [.b .str]⟩, ⟨1, 0, .row true 40 KzT⟩]⟩
noncomputable def chart_spanned_Weight_o : Exits := [(.ret, ⟨[.b .bool, .b (.int .u32), .b (.int .u32), .r [.b .str], .r KzT], 35, [(8, (.ptr 108 0)), (9, .v)], [⟨108, 0, .cells [.v, .v]⟩, ⟨0, 0, .row true 9 [.b .str]⟩, ⟨1, 0, .row true 40 KzT⟩]⟩)]
noncomputable def chart_spanned_Weight_s : TSum := TSum.of (baseC (fun _ => none) (fun _ => [])) (Go.Proofs.Tryd.f21.results.toList) 2 chart_spanned_Weight_i chart_spanned_Weight_o (fun v => chart_spanned_Weight v.1 v.2.1 v.2.2)
noncomputable def chart_spanned_Weight_z : Code := Option.getD Go.Proofs.Tryd.f21.body .skip
noncomputable def chart_spanned_Weight_x (gl : Glob) : TCtx := { baseC gl (lookS [(38, [chart_span_s]), (39, [chart_behind_Weight_s])]) with inl := lookI [], fuel := 0, loops := lookL [], cuts := lookL [] }
theorem chart_spanned_Weight_v {gl : Glob} (hg : Gs gl) : ValidS Go.Proofs.Tryd.prog gl 21 chart_spanned_Weight_s := by
  refine validS_of (c := chart_spanned_Weight_x gl) ?_ hm_ Go.Proofs.Tryd.func21 (body := chart_spanned_Weight_z) ?_ ?_ ?_ ?_ ?_ ?_ ?_ ?_ ?_
  · exact tok_of tyB_ok cmpB_ok (.cons (.cons (chart_span_v hg) .nil) (hb_ 38 Go.Proofs.Tryd.func38 (by kernel_rfl) (by kernel_rfl)) (.cons (.cons (chart_behind_Weight_v hg) .nil) (hb_ 39 Go.Proofs.Tryd.func39 (by kernel_rfl) (by kernel_rfl)) .nil)) .nil
  · kernel_rfl
  · rfl
  · exact annOK_by (l := []) (by kernel_rfl) (trivial)
  · exact fun (a0, a1, a2) => Eq.symm (by kernel_rfl)
  · kernel_rfl
  · kernel_rfl
  · exact exitX_of (.cons (fun v => by kernel_rfl) .nil)
  · rfl
  · rfl
noncomputable def internal_strconv_Atoi_l10 : Loop1 := ⟨⟨[.b .str, .b (.int .i64), .b (.int .i64), .b (.int .i64), .r [.b (.int .u8)]], 77, [(5, .v), (6, .v), (47, (.own 147)), (48, .v), (49, .v)], [⟨147, 0, .row false 5 [.b (.int .u8)]⟩]⟩, [(.ret, ⟨[.b (.int .i64)], 77, [(2, .v), (3, .ifc)], []⟩), (.exit 0, ⟨[.b .str, .b (.int .i64)], 77, [(5, .v), (6, .v)], []⟩)], internal_strconv_Atoi_b10⟩
noncomputable def internal_strconv_Atoi_i : Pat := ⟨[.b .str], 77, [(0, .v)], []⟩
noncomputable def internal_strconv_Atoi_o : Exits := [(.ret, ⟨[.b (.int .i64)], 77, [(2, .v), (3, .ifc)], []⟩), (.ret, ⟨[.b (.int .i64)], 77, [(2, .v), (3, (.lit .nilIface))], []⟩)]
noncomputable def internal_strconv_Atoi_s : TSum := TSum.of (baseC (fun _ => none) (fun _ => [])) (Go.Proofs.Tryd.f40.results.toList) 0 internal_strconv_Atoi_i internal_strconv_Atoi_o (fun v => internal_strconv_Atoi v)
noncomputable def internal_strconv_Atoi_z : Code := Option.getD Go.Proofs.Tryd.f40.body .skip
noncomputable def internal_strconv_Atoi_x (gl : Glob) : TCtx := { baseC gl (lookS []) with inl := lookI [], fuel := 0, loops := lookL [(10, internal_strconv_Atoi_l10)], cuts := lookL [] }
theorem internal_strconv_Atoi_v {gl : Glob} (hg : Gs gl) : ValidS Go.Proofs.Tryd.prog gl 40 internal_strconv_Atoi_s := by
  refine validS_of (c := internal_strconv_Atoi_x gl) ?_ hm_ Go.Proofs.Tryd.func40 (body := internal_strconv_Atoi_z) ?_ ?_ ?_ ?_ ?_ ?_ ?_ ?_ ?_
  · exact tok_of tyB_ok cmpB_ok .nil .nil
  · kernel_rfl
  · rfl
  · exact annOK_by (l := [∀ v, internal_strconv_Atoi_l10.body v = (roundT (internal_strconv_Atoi_x gl) internal_strconv_Atoi_l10.pat internal_strconv_Atoi_l10.exits (subAt [1, 1, 0, 1, 0, 1, 1, 1, 0, 1, 0, 0] internal_strconv_Atoi_z) v).run]) (by kernel_rfl) (⟨fun (a0, a1, a2, a3, a4) => Eq.symm (by kernel_rfl), trivial⟩)
  · exact fun v => Eq.symm (by kernel_rfl)
  · kernel_rfl
  · kernel_rfl
  · exact exitX_of (.cons (fun v => by kernel_rfl) (.cons (fun v => by kernel_rfl) .nil))
  · rfl
  · rfl
noncomputable def strconv_Atoi_i : Pat := ⟨[.b .str], 18, [(0, .v)], []⟩
noncomputable def strconv_Atoi_o : Exits := [(.ret, ⟨[.b (.int .i64)], 18, [(2, .v), (3, (.lit .nilIface))], []⟩)]
noncomputable def strconv_Atoi_s : TSum := TSum.of (baseC (fun _ => none) (fun _ => [])) (Go.Proofs.Tryd.f23.results.toList) 0 strconv_Atoi_i strconv_Atoi_o (fun v => strconv_Atoi v)
noncomputable def strconv_Atoi_z : Code := Option.getD Go.Proofs.Tryd.f23.body .skip
noncomputable def strconv_Atoi_x (gl : Glob) : TCtx := { baseC gl (lookS [(40, [internal_strconv_Atoi_s])]) with inl := lookI [], fuel := 0, loops := lookL [], cuts := lookL [] }
theorem strconv_Atoi_v {gl : Glob} (hg : Gs gl) : ValidS Go.Proofs.Tryd.prog gl 23 strconv_Atoi_s := by
  refine validS_of (c := strconv_Atoi_x gl) ?_ hm_ Go.Proofs.Tryd.func23 (body := strconv_Atoi_z) ?_ ?_ ?_ ?_ ?_ ?_ ?_ ?_ ?_
  · exact tok_of tyB_ok cmpB_ok (.cons (.cons (internal_strconv_Atoi_v hg) .nil) (hb_ 40 Go.Proofs.Tryd.func40 (by kernel_rfl) (by kernel_rfl)) .nil) .nil
  · kernel_rfl
  · rfl
  · exact annOK_by (l := []) (by kernel_rfl) (trivial)
  · exact fun v => Eq.symm (by kernel_rfl)
  · kernel_rfl
  · kernel_rfl
  · exact exitX_of (.cons (fun v => by kernel_rfl) .nil)
  · rfl
  · rfl
noncomputable def chart_Classes_1_i : Pat := ⟨[.r [.b .str], .r KzT], 47, [(0, (.own 0)), (1, (.own 1))], [⟨0, 0, .row true 9 [.b .str]⟩, ⟨1, 0, .row true 40 KzT⟩]⟩
noncomputable def chart_Classes_1_o : Exits := [(.ret, ⟨[.b .bool, .b (.int .u32), .b (.int .u32), .b (.int .u32), .r [.b .str], .r KzT], 47, [(4, (.ptr 104 0)), (5, .v)], [⟨104, 0, .cells [.v, .v, .v]⟩, ⟨0, 0, .row true 9 [.b .str]⟩, ⟨1, 0, .row true 40 KzT⟩]⟩)]
noncomputable def chart_Classes_1_s : TSum := TSum.of (baseC (fun _ => none) (fun _ => [])) (Go.Proofs.Tryd.f20.results.toList) 2 chart_Classes_1_i chart_Classes_1_o (fun v => chart_Classes_1 v.1 v.2)
noncomputable def chart_Classes_1_z : Code := Option.getD Go.Proofs.Tryd.f20.body .skip
noncomputable def chart_Classes_1_x (gl : Glob) : TCtx := { baseC gl (lookS [(16, [chart_made_s]), (21, [chart_spanned_Weight_s]), (23, [strconv_Atoi_s])]) with inl := lookI [], fuel := 0, loops := lookL [], cuts := lookL [] }
theorem chart_Classes_1_v {gl : Glob} (hg : Gs gl) : ValidS Go.Proofs.Tryd.prog gl 20 chart_Classes_1_s := by
  refine validS_of (c := chart_Classes_1_x gl) ?_ hm_ Go.Proofs.Tryd.func20 (body := chart_Classes_1_z) ?_ ?_ ?_ ?_ ?_ ?_ ?_ ?_ ?_
  · exact tok_of tyB_ok cmpB_ok (.cons (.cons (chart_made_v hg) .nil) (hb_ 16 Go.Proofs.Tryd.func16 (by kernel_rfl) (by kernel_rfl)) (.cons (.cons (chart_spanned_Weight_v hg) .nil) (hb_ 21 Go.Proofs.Tryd.func21 (by kernel_rfl) (by kernel_rfl)) (.cons (.cons (strconv_Atoi_v hg) .nil) (hb_ 23 Go.Proofs.Tryd.func23 (by kernel_rfl) (by kernel_rfl)) .nil))) .nil
  · kernel_rfl
  · rfl
  · exact annOK_by (l := []) (by kernel_rfl) (trivial)
  · exact fun (a0, a1) => Eq.symm (by kernel_rfl)
  · kernel_rfl
  · kernel_rfl
  · exact exitX_of (.cons (fun v => by kernel_rfl) .nil)
  · rfl
  · rfl
noncomputable def chart_read_Weight_l5 : Loop1 := ⟨⟨[.b (.int .i64), .b (.int .i64), .r [.b .str], .r KzT], 40, [(1, (.fn 20 [] [])), (7, (.own 5000)), (15, (.own 1150)), (16, .v), (17, .v)], [⟨1150, 0, .row true 9 [.b .str]⟩, ⟨5000, 0, .row true 40 KzT⟩]⟩, [(.exit 0, ⟨[.r KzT], 40, [(7, (.own 5000))], [⟨5000, 0, .row true 40 KzT⟩]⟩), (.ret, ⟨[.b (.int .i64), .b (.int .i64)], 40, [(4, (.lit (.slice none 0 0))), (5, .v), (6, .v)], []⟩)], chart_read_Weight_b5⟩
noncomputable def chart_read_Weight_i : Pat := ⟨[.b .str], 40, [(0, .v), (1, (.fn 20 [] []))], []⟩
noncomputable def chart_read_Weight_o : Exits := [(.ret, ⟨[.b (.int .i64), .b (.int .i64), .r KzT], 40, [(4, (.own 5000)), (5, .v), (6, .v)], [⟨5000, 0, .row true 40 KzT⟩]⟩)]
noncomputable def chart_read_Weight_s : TSum := TSum.of (baseC (fun _ => none) (fun _ => [])) (Go.Proofs.Tryd.f19.results.toList) 0 chart_read_Weight_i chart_read_Weight_o (fun v => chart_read_Weight v)
noncomputable def chart_read_Weight_z : Code := Option.getD Go.Proofs.Tryd.f19.body .skip
noncomputable def chart_read_Weight_x (gl : Glob) : TCtx := { baseC gl (lookS [(34, [strings_Split_s]), (20, [chart_Classes_1_s])]) with inl := lookI [], fuel := 0, loops := lookL [(5, chart_read_Weight_l5)], cuts := lookL [] }
theorem chart_read_Weight_v {gl : Glob} (hg : Gs gl) : ValidS Go.Proofs.Tryd.prog gl 19 chart_read_Weight_s := by
  refine validS_of (c := chart_read_Weight_x gl) ?_ hm_ Go.Proofs.Tryd.func19 (body := chart_read_Weight_z) ?_ ?_ ?_ ?_ ?_ ?_ ?_ ?_ ?_
  · exact tok_of tyB_ok cmpB_ok (.cons (.cons (strings_Split_v hg) .nil) (hb_ 34 Go.Proofs.Tryd.func34 (by kernel_rfl) (by kernel_rfl)) (.cons (.cons (chart_Classes_1_v hg) .nil) (hb_ 20 Go.Proofs.Tryd.func20 (by kernel_rfl) (by kernel_rfl)) .nil)) .nil
  · kernel_rfl
  · rfl
  · exact annOK_by (l := [∀ v, chart_read_Weight_l5.body v = (roundT (chart_read_Weight_x gl) chart_read_Weight_l5.pat chart_read_Weight_l5.exits (subAt [1, 1, 1, 0, 1, 0, 0] chart_read_Weight_z) v).run]) (by kernel_rfl) (⟨fun (a0, a1, a2, a3) => Eq.symm (by kernel_rfl), trivial⟩)
  · exact fun v => Eq.symm (by kernel_rfl)
  · kernel_rfl
  · kernel_rfl
  · exact exitX_of (.cons (fun v => by kernel_rfl) .nil)
  · rfl
  · rfl
noncomputable def chart_Classes_i : Pat := ⟨[.b .str], 10, [(0, .v)], []⟩
noncomputable def chart_Classes_o : Exits := [(.ret, ⟨[.b (.int .i64), .b (.int .i64), .r KzT], 10, [(2, (.own 1060)), (3, .v), (4, .v)], [⟨1060, 0, .row true 40 KzT⟩]⟩)]
noncomputable def chart_Classes_s : TSum := TSum.of (baseC (fun _ => none) (fun _ => [])) (Go.Proofs.Tryd.f9.results.toList) 0 chart_Classes_i chart_Classes_o (fun v => chart_Classes v)
noncomputable def chart_Classes_z : Code := Option.getD Go.Proofs.Tryd.f9.body .skip
noncomputable def chart_Classes_x (gl : Glob) : TCtx := { baseC gl (lookS [(19, [chart_read_Weight_s])]) with inl := lookI [], fuel := 0, loops := lookL [], cuts := lookL [] }
theorem chart_Classes_v {gl : Glob} (hg : Gs gl) : ValidS Go.Proofs.Tryd.prog gl 9 chart_Classes_s := by
  refine validS_of (c := chart_Classes_x gl) ?_ hm_ Go.Proofs.Tryd.func9 (body := chart_Classes_z) ?_ ?_ ?_ ?_ ?_ ?_ ?_ ?_ ?_
  · exact tok_of tyB_ok cmpB_ok (.cons (.cons (chart_read_Weight_v hg) .nil) (hb_ 19 Go.Proofs.Tryd.func19 (by kernel_rfl) (by kernel_rfl)) .nil) .nil
  · kernel_rfl
  · rfl
  · exact annOK_by (l := []) (by kernel_rfl) (trivial)
  · exact fun v => Eq.symm (by kernel_rfl)
  · kernel_rfl
  · kernel_rfl
  · exact exitX_of (.cons (fun v => by kernel_rfl) .nil)
  · rfl
  · rfl
noncomputable def chart_points_l3 : Loop1 := ⟨⟨[.b (.int .i64), .b (.int .i64), .r [.b .str], .r [.b (.int .u32)]], 36, [(0, (.own 0)), (4, (.own 5000)), (9, (.own 0)), (10, .v), (11, .v)], [⟨0, 0, .row false 9 [.b .str]⟩, ⟨5000, 0, .row true 25 [.b (.int .u32)]⟩]⟩, [(.ret, ⟨[.b .bool, .r [.b .str]], 36, [(2, (.lit (.slice none 0 0))), (3, .v)], [⟨0, 0, .row false 9 [.b .str]⟩]⟩), (.exit 0, ⟨[.r [.b .str], .r [.b (.int .u32)]], 36, [(0, (.own 0)), (4, (.own 5000))], [⟨0, 0, .row false 9 [.b .str]⟩, ⟨5000, 0, .row true 25 [.b (.int .u32)]⟩]⟩)], chart_points_b3⟩
noncomputable def chart_points_i : Pat := ⟨[.r [.b .str]], 36, [(0, (.own 0))], [⟨0, 0, .row false 9 [.b .str]⟩]⟩
noncomputable def chart_points_o : Exits := [(.ret, ⟨[.b .bool, .r [.b .str], .r [.b (.int .u32)]], 36, [(2, (.own 5000)), (3, .v)], [⟨0, 0, .row false 9 [.b .str]⟩, ⟨5000, 0, .row true 25 [.b (.int .u32)]⟩]⟩)]
noncomputable def chart_points_s : TSum := TSum.of (baseC (fun _ => none) (fun _ => [])) (Go.Proofs.Tryd.f18.results.toList) 1 chart_points_i chart_points_o (fun v => chart_points v)
noncomputable def chart_points_z : Code := Option.getD Go.Proofs.Tryd.f18.body .skip
noncomputable def chart_points_x (gl : Glob) : TCtx := { baseC gl (lookS [(17, [chart_point_s])]) with inl := lookI [], fuel := 0, loops := lookL [(3, chart_points_l3)], cuts := lookL [] }
theorem chart_points_v {gl : Glob} (hg : Gs gl) : ValidS Go.Proofs.Tryd.prog gl 18 chart_points_s := by
  refine validS_of (c := chart_points_x gl) ?_ hm_ Go.Proofs.Tryd.func18 (body := chart_points_z) ?_ ?_ ?_ ?_ ?_ ?_ ?_ ?_ ?_
  · exact tok_of tyB_ok cmpB_ok (.cons (.cons (chart_point_v hg) .nil) (hb_ 17 Go.Proofs.Tryd.func17 (by kernel_rfl) (by kernel_rfl)) .nil) .nil
  · kernel_rfl
  · rfl
  · exact annOK_by (l := [∀ v, chart_points_l3.body v = (roundT (chart_points_x gl) chart_points_l3.pat chart_points_l3.exits (subAt [1, 1, 0, 1, 0, 0] chart_points_z) v).run]) (by kernel_rfl) (⟨fun (a0, a1, a2, a3) => Eq.symm (by kernel_rfl), trivial⟩)
  · exact fun v => Eq.symm (by kernel_rfl)
  · kernel_rfl
  · kernel_rfl
  · exact exitX_of (.cons (fun v => by kernel_rfl) .nil)
  · rfl
  · rfl
noncomputable def chart_Decomps_1_i : Pat := ⟨[.r [.b .str], .r KzD], 68, [(0, (.own 0)), (1, (.own 1))], [⟨0, 0, .row true 9 [.b .str]⟩, ⟨1, 0, .row true 32 KzD⟩]⟩
noncomputable def chart_Decomps_1_o : Exits := [(.ret, ⟨[.b .bool, .b (.int .u32), .b .bool, .b .bool, .r [.b .str], .r KzD, .r [.b (.int .u32)]], 68, [(4, (.ptr 104 0)), (5, .v)], [⟨104, 0, .cells [.v, (.own 5000), .v, .v]⟩, ⟨0, 0, .row false 9 [.b .str]⟩, ⟨1, 0, .row true 32 KzD⟩, ⟨5000, 0, .row true 25 [.b (.int .u32)]⟩]⟩)]
noncomputable def chart_Decomps_1_s : TSum := TSum.of (baseC (fun _ => none) (fun _ => [])) (Go.Proofs.Tryd.f15.results.toList) 2 chart_Decomps_1_i chart_Decomps_1_o (fun v => chart_Decomps_1 v.1 v.2)
noncomputable def chart_Decomps_1_z : Code := Option.getD Go.Proofs.Tryd.f15.body .skip
noncomputable def chart_Decomps_1_x (gl : Glob) : TCtx := { baseC gl (lookS [(16, [chart_made_s]), (17, [chart_point_s]), (18, [chart_points_s])]) with inl := lookI [], fuel := 0, loops := lookL [], cuts := lookL [] }
theorem chart_Decomps_1_v {gl : Glob} (hg : Gs gl) : ValidS Go.Proofs.Tryd.prog gl 15 chart_Decomps_1_s := by
  refine validS_of (c := chart_Decomps_1_x gl) ?_ hm_ Go.Proofs.Tryd.func15 (body := chart_Decomps_1_z) ?_ ?_ ?_ ?_ ?_ ?_ ?_ ?_ ?_
  · exact tok_of tyB_ok cmpB_ok (.cons (.cons (chart_made_v hg) .nil) (hb_ 16 Go.Proofs.Tryd.func16 (by kernel_rfl) (by kernel_rfl)) (.cons (.cons (chart_point_v hg) .nil) (hb_ 17 Go.Proofs.Tryd.func17 (by kernel_rfl) (by kernel_rfl)) (.cons (.cons (chart_points_v hg) .nil) (hb_ 18 Go.Proofs.Tryd.func18 (by kernel_rfl) (by kernel_rfl)) .nil))) .nil
  · kernel_rfl
  · rfl
  · exact annOK_by (l := []) (by kernel_rfl) (trivial)
  · exact fun (a0, a1) => Eq.symm (by kernel_rfl)
  · kernel_rfl
  · kernel_rfl
  · exact exitX_of (.cons (fun v => by kernel_rfl) .nil)
  · rfl
  · rfl
noncomputable def chart_read_Decomp_l5 : Loop1 := ⟨⟨[.b (.int .i64), .b (.int .i64), .r [.b .str], .r KzD], 40, [(1, (.fn 15 [] [])), (7, (.own 5000)), (15, (.own 1150)), (16, .v), (17, .v)], [⟨1150, 0, .row true 9 [.b .str]⟩, ⟨5000, 0, .row true 32 KzD⟩]⟩, [(.exit 0, ⟨[.r KzD], 40, [(7, (.own 5000))], [⟨5000, 0, .row true 32 KzD⟩]⟩), (.ret, ⟨[.b (.int .i64), .b (.int .i64)], 40, [(4, (.lit (.slice none 0 0))), (5, .v), (6, .v)], []⟩)], chart_read_Decomp_b5⟩
noncomputable def chart_read_Decomp_i : Pat := ⟨[.b .str], 40, [(0, .v), (1, (.fn 15 [] []))], []⟩
noncomputable def chart_read_Decomp_o : Exits := [(.ret, ⟨[.b (.int .i64), .b (.int .i64), .r KzD], 40, [(4, (.own 5000)), (5, .v), (6, .v)], [⟨5000, 0, .row true 32 KzD⟩]⟩)]
noncomputable def chart_read_Decomp_s : TSum := TSum.of (baseC (fun _ => none) (fun _ => [])) (Go.Proofs.Tryd.f14.results.toList) 0 chart_read_Decomp_i chart_read_Decomp_o (fun v => chart_read_Decomp v)
noncomputable def chart_read_Decomp_z : Code := Option.getD Go.Proofs.Tryd.f14.body .skip
noncomputable def chart_read_Decomp_x (gl : Glob) : TCtx := { baseC gl (lookS [(34, [strings_Split_s]), (15, [chart_Decomps_1_s])]) with inl := lookI [], fuel := 0, loops := lookL [(5, chart_read_Decomp_l5)], cuts := lookL [] }
theorem chart_read_Decomp_v {gl : Glob} (hg : Gs gl) : ValidS Go.Proofs.Tryd.prog gl 14 chart_read_Decomp_s := by
  refine validS_of (c := chart_read_Decomp_x gl) ?_ hm_ Go.Proofs.Tryd.func14 (body := chart_read_Decomp_z) ?_ ?_ ?_ ?_ ?_ ?_ ?_ ?_ ?_
  · exact tok_of tyB_ok cmpB_ok (.cons (.cons (strings_Split_v hg) .nil) (hb_ 34 Go.Proofs.Tryd.func34 (by kernel_rfl) (by kernel_rfl)) (.cons (.cons (chart_Decomps_1_v hg) .nil) (hb_ 15 Go.Proofs.Tryd.func15 (by kernel_rfl) (by kernel_rfl)) .nil)) .nil
  · kernel_rfl
  · rfl
  · exact annOK_by (l := [∀ v, chart_read_Decomp_l5.body v = (roundT (chart_read_Decomp_x gl) chart_read_Decomp_l5.pat chart_read_Decomp_l5.exits (subAt [1, 1, 1, 0, 1, 0, 0] chart_read_Decomp_z) v).run]) (by kernel_rfl) (⟨fun (a0, a1, a2, a3) => Eq.symm (by kernel_rfl), trivial⟩)
  · exact fun v => Eq.symm (by kernel_rfl)
  · kernel_rfl
  · kernel_rfl
  · exact exitX_of (.cons (fun v => by kernel_rfl) .nil)
  · rfl
  · rfl
noncomputable def chart_Decomps_i : Pat := ⟨[.b .str], 10, [(0, .v)], []⟩
noncomputable def chart_Decomps_o : Exits := [(.ret, ⟨[.b (.int .i64), .b (.int .i64), .r KzD], 10, [(2, (.own 1060)), (3, .v), (4, .v)], [⟨1060, 0, .row true 32 KzD⟩]⟩)]
noncomputable def chart_Decomps_s : TSum := TSum.of (baseC (fun _ => none) (fun _ => [])) (Go.Proofs.Tryd.f7.results.toList) 0 chart_Decomps_i chart_Decomps_o (fun v => chart_Decomps v)
noncomputable def chart_Decomps_z : Code := Option.getD Go.Proofs.Tryd.f7.body .skip
noncomputable def chart_Decomps_x (gl : Glob) : TCtx := { baseC gl (lookS [(14, [chart_read_Decomp_s])]) with inl := lookI [], fuel := 0, loops := lookL [], cuts := lookL [] }
theorem chart_Decomps_v {gl : Glob} (hg : Gs gl) : ValidS Go.Proofs.Tryd.prog gl 7 chart_Decomps_s := by
  refine validS_of (c := chart_Decomps_x gl) ?_ hm_ Go.Proofs.Tryd.func7 (body := chart_Decomps_z) ?_ ?_ ?_ ?_ ?_ ?_ ?_ ?_ ?_
  · exact tok_of tyB_ok cmpB_ok (.cons (.cons (chart_read_Decomp_v hg) .nil) (hb_ 14 Go.Proofs.Tryd.func14 (by kernel_rfl) (by kernel_rfl)) .nil) .nil
  · kernel_rfl
  · rfl
  · exact annOK_by (l := []) (by kernel_rfl) (trivial)
  · exact fun v => Eq.symm (by kernel_rfl)
  · kernel_rfl
  · kernel_rfl
  · exact exitX_of (.cons (fun v => by kernel_rfl) .nil)
  · rfl
  · rfl
end Go.Tx
