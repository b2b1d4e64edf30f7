/- Part 25 of the proof of the statement that the last part names; it asks for no condition of its own. Here: GenTsB. -/
import Derived.Test.YtgkfbembnlgahaaGreatDoorQaw
import Derived.Test.YtgkfbembnlgahaaGreatDoorQas
import Derived.Test.YtgkfbembnlgahaaGreatDoorQax
set_option linter.all false
set_option linter.unusedVariables false
set_option maxRecDepth 100000
set_option maxHeartbeats 0
namespace Go.Tx
open Go Go.Sx
noncomputable def ref08_Merged_i2_l2 : Loop1 := ⟨⟨[.b (.int .i64), .r KzP], 52, [(0, (.own 0)), (3, .v)], [⟨0, 0, .row false 83 KzP⟩]⟩, [(.ret, ⟨[.b .bool, .r KzP], 52, [(2, .v)], [⟨0, 0, .row false 83 KzP⟩]⟩), (.exit 0, ⟨[.r KzP], 52, [], [⟨0, 0, .row false 83 KzP⟩]⟩)], ref08_Merged_i2_b2⟩
noncomputable def ref08_Merged_i2_i : Pat := ⟨[.r KzP], 52, [(0, (.own 0))], [⟨0, 0, .row false 83 KzP⟩]⟩
noncomputable def ref08_Merged_i2_o : Exits := [(.ret, ⟨[.b .bool, .r KzP], 52, [(2, .v)], [⟨0, 0, .row false 83 KzP⟩]⟩)]
noncomputable def ref08_Merged_i2_s : TSum := TSum.of (baseC (fun _ => none) (fun _ => [])) (Go.Proofs.Tryz.f59.results.toList) 1 ref08_Merged_i2_i ref08_Merged_i2_o (fun v => ref08_Merged_i2 v)
noncomputable def ref08_Merged_i2_z : Code := Option.getD Go.Proofs.Tryz.f59.body .skip
noncomputable def ref08_Merged_i2_x (gl : Glob) : TCtx := { baseC gl (lookS []) with inl := lookI [], fuel := 0, loops := lookL [(2, ref08_Merged_i2_l2)], cuts := lookL [] }
theorem ref08_Merged_i2_v {gl : Glob} (hg : Gs gl) : ValidS Go.Proofs.Tryz.prog gl 59 ref08_Merged_i2_s := by
  refine validS_of (c := ref08_Merged_i2_x gl) ?_ hm_ Go.Proofs.Tryz.func59 (body := ref08_Merged_i2_z) ?_ ?_ ?_ ?_ ?_ ?_ ?_ ?_ ?_
  · exact tok_of tyB_ok cmpB_ok .nil .nil
  · kernel_rfl
  · rfl
  · exact annOK_by (l := [∀ v, ref08_Merged_i2_l2.body v = (roundT (ref08_Merged_i2_x gl) ref08_Merged_i2_l2.pat ref08_Merged_i2_l2.exits (subAt [1, 0, 1, 0, 0] ref08_Merged_i2_z) v).run]) (by kernel_rfl) (⟨fun (a0, a1) => Eq.symm (by kernel_rfl), trivial⟩)
  · exact fun v => Eq.symm (by kernel_rfl)
  · kernel_rfl
  · kernel_rfl
  · exact exitX_of (.cons (fun v => by kernel_rfl) .nil)
  · rfl
  · rfl
noncomputable def law08_TablesSpans_l14 : Loop1 := ⟨⟨[.b (.int .u32), .b (.int .i64), .r [.s 83 [.int .u32, .int .u32], .b .bool], .r [.b .str]], 127, [(0, .v), (107, (.own 207)), (108, (.lit (.int .i64 6))), (109, .v)], [⟨207, 0, .row true 117 [.s 83 [.int .u32, .int .u32], .b .bool]⟩, ⟨0, 0, .row false 9 [.b .str]⟩]⟩, [(.ret, ⟨[.b .bool, .r [.b .str]], 127, [(6, .v)], [⟨0, 0, .row false 9 [.b .str]⟩]⟩), (.exit 0, ⟨[.r [.b .str]], 127, [], [⟨0, 0, .row false 9 [.b .str]⟩]⟩)], law08_TablesSpans_b14⟩
noncomputable def law08_TablesSpans_i : Pat := ⟨[.b (.int .u32), .b .bool, .r [.b .str]], 127, [(0, .v), (1, (.own 0)), (2, .v)], [⟨0, 0, .row false 9 [.b .str]⟩]⟩
noncomputable def law08_TablesSpans_o : Exits := [(.ret, ⟨[.b .bool, .r [.b .str]], 127, [(6, .v)], [⟨0, 0, .row false 9 [.b .str]⟩]⟩)]
noncomputable def law08_TablesSpans_s : TSum := TSum.of (baseC (fun _ => none) (fun _ => [])) (Go.Proofs.Tryz.f13.results.toList) 1 law08_TablesSpans_i law08_TablesSpans_o (fun v => law08_TablesSpans v.1 v.2.1 v.2.2)
noncomputable def law08_TablesSpans_z : Code := Option.getD Go.Proofs.Tryz.f13.body .skip
noncomputable def law08_TablesSpans_x (gl : Glob) : TCtx := { baseC gl (lookS [(16, [tables_New_s]), (14, [law08_awake_s]), (15, [ref08_New_s]), (18, [ref08_Tables_Line_s]), (60, [ref06_In_s]), (62, [tables_Tables_Assigned_s]), (63, [tables_Tables_Cats_s]), (64, [ref08_One_s]), (65, [tables_Tables_Sides_s]), (66, [tables_Tables_Joins_s]), (67, [ref08_Letter_s]), (68, [tables_Tables_Set_s]), (69, [ref08_Tables_Set_s]), (70, [tables_Tables_Alike_s]), (61, [ref08_Tables_Range_s]), (59, [ref08_Merged_i2_s])]) with inl := lookI [], fuel := 0, loops := lookL [(14, law08_TablesSpans_l14)], cuts := lookL [] }
theorem law08_TablesSpans_v {gl : Glob} (hg : Gs gl) : ValidS Go.Proofs.Tryz.prog gl 13 law08_TablesSpans_s := by
  refine validS_of (c := law08_TablesSpans_x gl) ?_ hm_ Go.Proofs.Tryz.func13 (body := law08_TablesSpans_z) ?_ ?_ ?_ ?_ ?_ ?_ ?_ ?_ ?_
  · exact tok_of tyB_ok cmpB_ok (.cons (.cons (tables_New_v hg) .nil) (hb_ 16 Go.Proofs.Tryz.func16 (by kernel_rfl) (by kernel_rfl)) (.cons (.cons (law08_awake_v hg) .nil) (hb_ 14 Go.Proofs.Tryz.func14 (by kernel_rfl) (by kernel_rfl)) (.cons (.cons (ref08_New_v hg) .nil) (hb_ 15 Go.Proofs.Tryz.func15 (by kernel_rfl) (by kernel_rfl)) (.cons (.cons (ref08_Tables_Line_v hg) .nil) (hb_ 18 Go.Proofs.Tryz.func18 (by kernel_rfl) (by kernel_rfl)) (.cons (.cons (ref06_In_v hg) .nil) (hb_ 60 Go.Proofs.Tryz.func60 (by kernel_rfl) (by kernel_rfl)) (.cons (.cons (tables_Tables_Assigned_v hg) .nil) (hb_ 62 Go.Proofs.Tryz.func62 (by kernel_rfl) (by kernel_rfl)) (.cons (.cons (tables_Tables_Cats_v hg) .nil) (hb_ 63 Go.Proofs.Tryz.func63 (by kernel_rfl) (by kernel_rfl)) (.cons (.cons (ref08_One_v hg) .nil) (hb_ 64 Go.Proofs.Tryz.func64 (by kernel_rfl) (by kernel_rfl)) (.cons (.cons (tables_Tables_Sides_v hg) .nil) (hb_ 65 Go.Proofs.Tryz.func65 (by kernel_rfl) (by kernel_rfl)) (.cons (.cons (tables_Tables_Joins_v hg) .nil) (hb_ 66 Go.Proofs.Tryz.func66 (by kernel_rfl) (by kernel_rfl)) (.cons (.cons (ref08_Letter_v hg) .nil) (hb_ 67 Go.Proofs.Tryz.func67 (by kernel_rfl) (by kernel_rfl)) (.cons (.cons (tables_Tables_Set_v hg) .nil) (hb_ 68 Go.Proofs.Tryz.func68 (by kernel_rfl) (by kernel_rfl)) (.cons (.cons (ref08_Tables_Set_v hg) .nil) (hb_ 69 Go.Proofs.Tryz.func69 (by kernel_rfl) (by kernel_rfl)) (.cons (.cons (tables_Tables_Alike_v hg) .nil) (hb_ 70 Go.Proofs.Tryz.func70 (by kernel_rfl) (by kernel_rfl)) (.cons (.cons (ref08_Tables_Range_v hg) .nil) (hb_ 61 Go.Proofs.Tryz.func61 (by kernel_rfl) (by kernel_rfl)) (.cons (.cons (ref08_Merged_i2_v hg) .nil) (hb_ 59 Go.Proofs.Tryz.func59 (by kernel_rfl) (by kernel_rfl)) .nil)))))))))))))))) .nil
  · kernel_rfl
  · rfl
  · exact annOK_by (l := [∀ v, law08_TablesSpans_l14.body v = (roundT (law08_TablesSpans_x gl) law08_TablesSpans_l14.pat law08_TablesSpans_l14.exits (subAt [1, 1, 1, 1, 1, 1, 1, 1, 1, 0, 1, 0, 0] law08_TablesSpans_z) v).run]) (by kernel_rfl) (⟨fun (a0, a1, a2, a3) => Eq.symm (by kernel_rfl), trivial⟩)
  · exact fun (a0, a1, a2) => Eq.symm (by kernel_rfl)
  · kernel_rfl
  · kernel_rfl
  · exact exitX_of (.cons (fun v => by kernel_rfl) .nil)
  · rfl
  · rfl
end Go.Tx
