/- Part 19 of the proof of the statement that the last part names; it asks for no condition of its own. Here: GenMrB. -/
import Derived.Test.YtgkfbembnlgahaaGreatDoorQag
import Derived.Test.YtgkfbembnlgahaaGreatDoorQan
import Derived.Test.YtgkfbembnlgahaaGreatDoorQap
import Derived.Test.YtgkfbembnlgahaaGreatDoorQar
/- Printed by the driver (wip/drv): the contracts of Go functions, checked. -/
set_option linter.all false
set_option linter.unusedVariables false
set_option maxRecDepth 100000
set_option maxHeartbeats 0
namespace Go.Tx
open Go Go.Sx
/-! sabretache/tables.Merge -/
noncomputable def tables_Merge_l5 : Loop1 := ⟨⟨[.b (.int .i64), .b (.int .i64), .r [.b (.int .u32), .b (.int .u32)], .r [.b (.int .u32), .b (.int .u32)], .r [.b (.int .u32), .b (.int .u32)]], 60, [(3, (.own 5000)), (12, (.own 1080)), (13, .v), (14, .v)], [⟨1080, 0, .row true 83 [.b (.int .u32), .b (.int .u32)]⟩, ⟨0, 0, .row false 83 [.b (.int .u32), .b (.int .u32)]⟩, ⟨5000, 0, .row true 83 [.b (.int .u32), .b (.int .u32)]⟩]⟩, [(.exit 0, ⟨[.r [.b (.int .u32), .b (.int .u32)], .r [.b (.int .u32), .b (.int .u32)]], 60, [(3, (.own 5000))], [⟨5000, 0, .row true 83 [.b (.int .u32), .b (.int .u32)]⟩, ⟨0, 0, .row false 83 [.b (.int .u32), .b (.int .u32)]⟩]⟩)], tables_Merge_b5⟩
noncomputable def tables_Merge_i : Pat := ⟨[.r [.b (.int .u32), .b (.int .u32)]], 60, [(0, (.own 0))], [⟨0, 0, .row false 83 [.b (.int .u32), .b (.int .u32)]⟩]⟩
noncomputable def tables_Merge_o : Exits := [(.ret, ⟨[.r [.b (.int .u32), .b (.int .u32)], .r [.b (.int .u32), .b (.int .u32)]], 60, [(2, (.own 5000))], [⟨5000, 0, .row true 83 [.b (.int .u32), .b (.int .u32)]⟩, ⟨0, 0, .row false 83 [.b (.int .u32), .b (.int .u32)]⟩]⟩)]
noncomputable def tables_Merge_s : TSum := TSum.of (baseC (fun _ => none) (fun _ => [])) (Go.Proofs.Tryz.f56.results.toList) 1 tables_Merge_i tables_Merge_o (fun v => tables_Merge v)
noncomputable def tables_Merge_z : Code := Option.getD Go.Proofs.Tryz.f56.body .skip
noncomputable def tables_Merge_x (gl : Glob) : TCtx := { baseC gl (lookS [(125, [slices_SortFunc_s]), (123, [slices_CloneR_s]), (122, [slices_DeleteFunc_s])]) with inl := lookI [], fuel := 0, loops := lookL [(5, tables_Merge_l5)], cuts := lookL [] }
theorem tables_Merge_v {gl : Glob} (hg : Gs gl) : ValidS Go.Proofs.Tryz.prog gl 56 tables_Merge_s := by
  refine validS_of (c := tables_Merge_x gl) ?_ hm_ Go.Proofs.Tryz.func56 (body := tables_Merge_z) ?_ ?_ ?_ ?_ ?_ ?_ ?_ ?_ ?_
  · exact tok_of tyB_ok cmpB_ok (.cons (.cons (slices_SortFunc_v hg) .nil) (hb_ 125 Go.Proofs.Tryz.func125 (by kernel_rfl) (by kernel_rfl)) (.cons (.cons (slices_CloneR_v hg) .nil) (hb_ 123 Go.Proofs.Tryz.func123 (by kernel_rfl) (by kernel_rfl)) (.cons (.cons (slices_DeleteFunc_v hg) .nil) (hb_ 122 Go.Proofs.Tryz.func122 (by kernel_rfl) (by kernel_rfl)) .nil))) .nil
  · kernel_rfl
  · rfl
  · exact annOK_by (l := [∀ v, tables_Merge_l5.body v = (roundT (tables_Merge_x gl) tables_Merge_l5.pat tables_Merge_l5.exits (subAt [1, 1, 1, 1, 0, 1, 0, 0] tables_Merge_z) v).run]) (by kernel_rfl) (⟨fun (a0, a1, a2, a3, a4) => Eq.symm (by kernel_rfl), trivial⟩)
  · exact fun v => Eq.symm (by kernel_rfl)
  · kernel_rfl
  · kernel_rfl
  · exact exitX_of (.cons (fun v => by kernel_rfl) .nil)
  · rfl
  · rfl
/-! sabretache/tables.Outside -/
noncomputable def tables_Outside_l4 : Loop1 := ⟨⟨[.b (.int .u32), .b (.int .i64), .b (.int .i64), .r [.b (.int .u32), .b (.int .u32)], .r [.b (.int .u32), .b (.int .u32)], .r [.b (.int .u32), .b (.int .u32)]], 46, [(3, (.own 5000)), (4, .v), (8, (.own 1080)), (9, .v), (10, .v)], [⟨1080, 0, .row true 83 [.b (.int .u32), .b (.int .u32)]⟩, ⟨0, 0, .row false 83 [.b (.int .u32), .b (.int .u32)]⟩, ⟨5000, 0, .row true 83 [.b (.int .u32), .b (.int .u32)]⟩]⟩, [(.exit 0, ⟨[.b (.int .u32), .r [.b (.int .u32), .b (.int .u32)], .r [.b (.int .u32), .b (.int .u32)]], 46, [(3, (.own 5000)), (4, .v)], [⟨5000, 0, .row true 83 [.b (.int .u32), .b (.int .u32)]⟩, ⟨0, 0, .row false 83 [.b (.int .u32), .b (.int .u32)]⟩]⟩)], tables_Outside_b4⟩
noncomputable def tables_Outside_i : Pat := ⟨[.r [.b (.int .u32), .b (.int .u32)]], 46, [(0, (.own 0))], [⟨0, 0, .row false 83 [.b (.int .u32), .b (.int .u32)]⟩]⟩
noncomputable def tables_Outside_o : Exits := [(.ret, ⟨[.r [.b (.int .u32), .b (.int .u32)], .r [.b (.int .u32), .b (.int .u32)]], 46, [(2, (.own 5000))], [⟨5000, 0, .row true 83 [.b (.int .u32), .b (.int .u32)]⟩, ⟨0, 0, .row false 83 [.b (.int .u32), .b (.int .u32)]⟩]⟩)]
noncomputable def tables_Outside_s : TSum := TSum.of (baseC (fun _ => none) (fun _ => [])) (Go.Proofs.Tryz.f57.results.toList) 1 tables_Outside_i tables_Outside_o (fun v => tables_Outside v)
noncomputable def tables_Outside_z : Code := Option.getD Go.Proofs.Tryz.f57.body .skip
noncomputable def tables_Outside_x (gl : Glob) : TCtx := { baseC gl (lookS [(56, [tables_Merge_s])]) with inl := lookI [], fuel := 0, loops := lookL [(4, tables_Outside_l4)], cuts := lookL [] }
theorem tables_Outside_v {gl : Glob} (hg : Gs gl) : ValidS Go.Proofs.Tryz.prog gl 57 tables_Outside_s := by
  refine validS_of (c := tables_Outside_x gl) ?_ hm_ Go.Proofs.Tryz.func57 (body := tables_Outside_z) ?_ ?_ ?_ ?_ ?_ ?_ ?_ ?_ ?_
  · exact tok_of tyB_ok cmpB_ok (.cons (.cons (tables_Merge_v hg) .nil) (hb_ 56 Go.Proofs.Tryz.func56 (by kernel_rfl) (by kernel_rfl)) .nil) .nil
  · kernel_rfl
  · rfl
  · exact annOK_by (l := [∀ v, tables_Outside_l4.body v = (roundT (tables_Outside_x gl) tables_Outside_l4.pat tables_Outside_l4.exits (subAt [1, 1, 1, 0, 1, 0, 0] tables_Outside_z) v).run]) (by kernel_rfl) (⟨fun (a0, a1, a2, a3, a4, a5) => Eq.symm (by kernel_rfl), trivial⟩)
  · exact fun v => Eq.symm (by kernel_rfl)
  · kernel_rfl
  · kernel_rfl
  · exact exitX_of (.cons (fun v => by kernel_rfl) .nil)
  · rfl
  · rfl
/-! slices.Concat[[]sabretache/api.Span,sabretache/api.Span] -/
noncomputable def slices_Concat___l3 : Loop1 := ⟨⟨[.b (.int .i64), .b (.int .i64), .b (.int .i64), .r [.s 83 [.int .u32, .int .u32]]], 36, [(0, (.own 0)), (3, .v), (9, (.own 0)), (10, .v), (11, .v)], [⟨0, 0, .row true 107 [.s 83 [.int .u32, .int .u32]]⟩]⟩, [(.exit 0, ⟨[.b (.int .i64), .r [.s 83 [.int .u32, .int .u32]]], 36, [(0, (.own 0)), (3, .v)], [⟨0, 0, .row true 107 [.s 83 [.int .u32, .int .u32]]⟩]⟩)], slices_Concat___b3⟩
noncomputable def slices_Concat___l11 : Loop1 := ⟨⟨[.b (.int .i64), .b (.int .i64), .r [.b (.int .u32), .b (.int .u32)], .r [.s 83 [.int .u32, .int .u32]]], 36, [(6, (.own 1240)), (25, (.own 0)), (26, .v), (27, .v)], [⟨1240, 0, .row true 83 [.b (.int .u32), .b (.int .u32)]⟩, ⟨0, 0, .row true 107 [.s 83 [.int .u32, .int .u32]]⟩]⟩, [(.exit 2, ⟨[.r [.b (.int .u32), .b (.int .u32)], .r [.s 83 [.int .u32, .int .u32]]], 36, [(6, (.own 1240))], [⟨1240, 0, .row true 83 [.b (.int .u32), .b (.int .u32)]⟩, ⟨0, 0, .row true 107 [.s 83 [.int .u32, .int .u32]]⟩]⟩)], slices_Concat___b11⟩
noncomputable def slices_Concat___i : Pat := ⟨[.r [.s 83 [.int .u32, .int .u32]]], 36, [(0, (.own 0))], [⟨0, 0, .row true 107 [.s 83 [.int .u32, .int .u32]]⟩]⟩
noncomputable def slices_Concat___o : Exits := [(.ret, ⟨[.r [.b (.int .u32), .b (.int .u32)], .r [.s 83 [.int .u32, .int .u32]]], 36, [(2, (.own 1240))], [⟨1240, 0, .row true 83 [.b (.int .u32), .b (.int .u32)]⟩, ⟨0, 0, .row true 107 [.s 83 [.int .u32, .int .u32]]⟩]⟩)]
noncomputable def slices_Concat___s : TSum := TSum.of (baseC (fun _ => none) (fun _ => [])) (Go.Proofs.Tryz.f129.results.toList) 1 slices_Concat___i slices_Concat___o (fun v => slices_Concat__ v)
noncomputable def slices_Concat___z : Code := Option.getD Go.Proofs.Tryz.f129.body .skip
noncomputable def slices_Concat___x (gl : Glob) : TCtx := { baseC gl (lookS [(174, [slices_Grow_s])]) with inl := lookI [], fuel := 0, loops := lookL [(3, slices_Concat___l3), (11, slices_Concat___l11)], cuts := lookL [] }
theorem slices_Concat___v {gl : Glob} (hg : Gs gl) : ValidS Go.Proofs.Tryz.prog gl 129 slices_Concat___s := by
  refine validS_of (c := slices_Concat___x gl) ?_ hm_ Go.Proofs.Tryz.func129 (body := slices_Concat___z) ?_ ?_ ?_ ?_ ?_ ?_ ?_ ?_ ?_
  · exact tok_of tyB_ok cmpB_ok (.cons (.cons (slices_Grow_v hg) .nil) (hb_ 174 Go.Proofs.Tryz.func174 (by kernel_rfl) (by kernel_rfl)) .nil) .nil
  · kernel_rfl
  · rfl
  · exact annOK_by (l := [∀ v, slices_Concat___l3.body v = (roundT (slices_Concat___x gl) slices_Concat___l3.pat slices_Concat___l3.exits (subAt [1, 1, 0, 1, 0, 0] slices_Concat___z) v).run, ∀ v, slices_Concat___l11.body v = (roundT (slices_Concat___x gl) slices_Concat___l11.pat slices_Concat___l11.exits (subAt [1, 1, 1, 1, 0, 1, 0, 0] slices_Concat___z) v).run]) (by kernel_rfl) (⟨fun (a0, a1, a2, a3) => Eq.symm (by kernel_rfl), fun (a0, a1, a2, a3) => Eq.symm (by kernel_rfl), trivial⟩)
  · exact fun v => Eq.symm (by kernel_rfl)
  · kernel_rfl
  · kernel_rfl
  · exact exitX_of (.cons (fun v => by kernel_rfl) .nil)
  · rfl
  · rfl
/-! sabretache/tables.Merge -/
noncomputable def tables_Merge_i2_l5 : Loop1 := ⟨⟨[.b (.int .i64), .b (.int .i64), .r [.b (.int .u32), .b (.int .u32)], .r [.b (.int .u32), .b (.int .u32)], .r [.b (.int .u32), .b (.int .u32)]], 60, [(3, (.own 5000)), (12, (.own 1080)), (13, .v), (14, .v)], [⟨1080, 0, .row true 83 [.b (.int .u32), .b (.int .u32)]⟩, ⟨0, 0, .row true 83 [.b (.int .u32), .b (.int .u32)]⟩, ⟨5000, 0, .row true 83 [.b (.int .u32), .b (.int .u32)]⟩]⟩, [(.exit 0, ⟨[.r [.b (.int .u32), .b (.int .u32)], .r [.b (.int .u32), .b (.int .u32)]], 60, [(3, (.own 5000))], [⟨5000, 0, .row true 83 [.b (.int .u32), .b (.int .u32)]⟩, ⟨0, 0, .row true 83 [.b (.int .u32), .b (.int .u32)]⟩]⟩)], tables_Merge_i2_b5⟩
noncomputable def tables_Merge_i2_i : Pat := ⟨[.r [.b (.int .u32), .b (.int .u32)]], 60, [(0, (.own 0))], [⟨0, 0, .row true 83 [.b (.int .u32), .b (.int .u32)]⟩]⟩
noncomputable def tables_Merge_i2_o : Exits := [(.ret, ⟨[.r [.b (.int .u32), .b (.int .u32)], .r [.b (.int .u32), .b (.int .u32)]], 60, [(2, (.own 5000))], [⟨5000, 0, .row true 83 [.b (.int .u32), .b (.int .u32)]⟩, ⟨0, 0, .row true 83 [.b (.int .u32), .b (.int .u32)]⟩]⟩)]
noncomputable def tables_Merge_i2_s : TSum := TSum.of (baseC (fun _ => none) (fun _ => [])) (Go.Proofs.Tryz.f56.results.toList) 1 tables_Merge_i2_i tables_Merge_i2_o (fun v => tables_Merge_i2 v)
noncomputable def tables_Merge_i2_z : Code := Option.getD Go.Proofs.Tryz.f56.body .skip
noncomputable def tables_Merge_i2_x (gl : Glob) : TCtx := { baseC gl (lookS [(125, [slices_SortFunc_s]), (123, [slices_CloneW_s]), (122, [slices_DeleteFunc_s])]) with inl := lookI [], fuel := 0, loops := lookL [(5, tables_Merge_i2_l5)], cuts := lookL [] }
theorem tables_Merge_i2_v {gl : Glob} (hg : Gs gl) : ValidS Go.Proofs.Tryz.prog gl 56 tables_Merge_i2_s := by
  refine validS_of (c := tables_Merge_i2_x gl) ?_ hm_ Go.Proofs.Tryz.func56 (body := tables_Merge_i2_z) ?_ ?_ ?_ ?_ ?_ ?_ ?_ ?_ ?_
  · exact tok_of tyB_ok cmpB_ok (.cons (.cons (slices_SortFunc_v hg) .nil) (hb_ 125 Go.Proofs.Tryz.func125 (by kernel_rfl) (by kernel_rfl)) (.cons (.cons (slices_CloneW_v hg) .nil) (hb_ 123 Go.Proofs.Tryz.func123 (by kernel_rfl) (by kernel_rfl)) (.cons (.cons (slices_DeleteFunc_v hg) .nil) (hb_ 122 Go.Proofs.Tryz.func122 (by kernel_rfl) (by kernel_rfl)) .nil))) .nil
  · kernel_rfl
  · rfl
  · exact annOK_by (l := [∀ v, tables_Merge_i2_l5.body v = (roundT (tables_Merge_i2_x gl) tables_Merge_i2_l5.pat tables_Merge_i2_l5.exits (subAt [1, 1, 1, 1, 0, 1, 0, 0] tables_Merge_i2_z) v).run]) (by kernel_rfl) (⟨fun (a0, a1, a2, a3, a4) => Eq.symm (by kernel_rfl), trivial⟩)
  · exact fun v => Eq.symm (by kernel_rfl)
  · kernel_rfl
  · kernel_rfl
  · exact exitX_of (.cons (fun v => by kernel_rfl) .nil)
  · rfl
  · rfl
/-! sabretache/tables.Union -/
noncomputable def tables_Union_i : Pat := ⟨[.r [.s 83 [.int .u32, .int .u32]]], 6, [(0, (.own 0))], [⟨0, 0, .row true 107 [.s 83 [.int .u32, .int .u32]]⟩]⟩
noncomputable def tables_Union_o : Exits := [(.ret, ⟨[.r [.b (.int .u32), .b (.int .u32)], .r [.s 83 [.int .u32, .int .u32]]], 6, [(2, (.own 1050))], [⟨1050, 0, .row true 83 [.b (.int .u32), .b (.int .u32)]⟩, ⟨0, 0, .row true 107 [.s 83 [.int .u32, .int .u32]]⟩]⟩)]
noncomputable def tables_Union_s : TSum := TSum.of (baseC (fun _ => none) (fun _ => [])) (Go.Proofs.Tryz.f58.results.toList) 1 tables_Union_i tables_Union_o (fun v => tables_Union v)
noncomputable def tables_Union_z : Code := Option.getD Go.Proofs.Tryz.f58.body .skip
noncomputable def tables_Union_x (gl : Glob) : TCtx := { baseC gl (lookS [(129, [slices_Concat___s]), (56, [tables_Merge_i2_s])]) with inl := lookI [], fuel := 0, loops := lookL [], cuts := lookL [] }
theorem tables_Union_v {gl : Glob} (hg : Gs gl) : ValidS Go.Proofs.Tryz.prog gl 58 tables_Union_s := by
  refine validS_of (c := tables_Union_x gl) ?_ hm_ Go.Proofs.Tryz.func58 (body := tables_Union_z) ?_ ?_ ?_ ?_ ?_ ?_ ?_ ?_ ?_
  · exact tok_of tyB_ok cmpB_ok (.cons (.cons (slices_Concat___v hg) .nil) (hb_ 129 Go.Proofs.Tryz.func129 (by kernel_rfl) (by kernel_rfl)) (.cons (.cons (tables_Merge_i2_v hg) .nil) (hb_ 56 Go.Proofs.Tryz.func56 (by kernel_rfl) (by kernel_rfl)) .nil)) .nil
  · kernel_rfl
  · rfl
  · exact annOK_by (l := []) (by kernel_rfl) (trivial)
  · exact fun v => Eq.symm (by kernel_rfl)
  · kernel_rfl
  · kernel_rfl
  · exact exitX_of (.cons (fun v => by kernel_rfl) .nil)
  · rfl
  · rfl
/-! sabretache/sabretacheref08.Merged -/
noncomputable def ref08_Merged_l2 : Loop1 := ⟨⟨[.b (.int .i64), .r [.b (.int .u32), .b (.int .u32)]], 52, [(0, (.own 0)), (3, .v)], [⟨0, 0, .row true 83 [.b (.int .u32), .b (.int .u32)]⟩]⟩, [(.ret, ⟨[.b .bool, .r [.b (.int .u32), .b (.int .u32)]], 52, [(2, .v)], [⟨0, 0, .row true 83 [.b (.int .u32), .b (.int .u32)]⟩]⟩), (.exit 0, ⟨[.r [.b (.int .u32), .b (.int .u32)]], 52, [], [⟨0, 0, .row true 83 [.b (.int .u32), .b (.int .u32)]⟩]⟩)], ref08_Merged_b2⟩
noncomputable def ref08_Merged_i : Pat := ⟨[.r [.b (.int .u32), .b (.int .u32)]], 52, [(0, (.own 0))], [⟨0, 0, .row true 83 [.b (.int .u32), .b (.int .u32)]⟩]⟩
noncomputable def ref08_Merged_o : Exits := [(.ret, ⟨[.b .bool, .r [.b (.int .u32), .b (.int .u32)]], 52, [(2, .v)], [⟨0, 0, .row true 83 [.b (.int .u32), .b (.int .u32)]⟩]⟩)]
noncomputable def ref08_Merged_s : TSum := TSum.of (baseC (fun _ => none) (fun _ => [])) (Go.Proofs.Tryz.f59.results.toList) 1 ref08_Merged_i ref08_Merged_o (fun v => ref08_Merged v)
noncomputable def ref08_Merged_z : Code := Option.getD Go.Proofs.Tryz.f59.body .skip
noncomputable def ref08_Merged_x (gl : Glob) : TCtx := { baseC gl (lookS []) with inl := lookI [], fuel := 0, loops := lookL [(2, ref08_Merged_l2)], cuts := lookL [] }
theorem ref08_Merged_v {gl : Glob} (hg : Gs gl) : ValidS Go.Proofs.Tryz.prog gl 59 ref08_Merged_s := by
  refine validS_of (c := ref08_Merged_x gl) ?_ hm_ Go.Proofs.Tryz.func59 (body := ref08_Merged_z) ?_ ?_ ?_ ?_ ?_ ?_ ?_ ?_ ?_
  · exact tok_of tyB_ok cmpB_ok .nil .nil
  · kernel_rfl
  · rfl
  · exact annOK_by (l := [∀ v, ref08_Merged_l2.body v = (roundT (ref08_Merged_x gl) ref08_Merged_l2.pat ref08_Merged_l2.exits (subAt [1, 0, 1, 0, 0] ref08_Merged_z) v).run]) (by kernel_rfl) (⟨fun (a0, a1) => Eq.symm (by kernel_rfl), trivial⟩)
  · exact fun v => Eq.symm (by kernel_rfl)
  · kernel_rfl
  · kernel_rfl
  · exact exitX_of (.cons (fun v => by kernel_rfl) .nil)
  · rfl
  · rfl
/-! sabretache/sabretacheref06.In -/
noncomputable def ref06_In_l2 : Loop1 := ⟨⟨[.b (.int .u32), .b (.int .i64), .r [.b (.int .u32), .b (.int .u32)]], 18, [(0, (.own 0)), (1, .v), (5, .v)], [⟨0, 0, .row false 83 [.b (.int .u32), .b (.int .u32)]⟩]⟩, [(.ret, ⟨[.b .bool, .r [.b (.int .u32), .b (.int .u32)]], 18, [(4, .v)], [⟨0, 0, .row false 83 [.b (.int .u32), .b (.int .u32)]⟩]⟩), (.exit 0, ⟨[.r [.b (.int .u32), .b (.int .u32)]], 18, [], [⟨0, 0, .row false 83 [.b (.int .u32), .b (.int .u32)]⟩]⟩)], ref06_In_b2⟩
noncomputable def ref06_In_i : Pat := ⟨[.b (.int .u32), .r [.b (.int .u32), .b (.int .u32)]], 18, [(0, (.own 0)), (1, .v)], [⟨0, 0, .row false 83 [.b (.int .u32), .b (.int .u32)]⟩]⟩
noncomputable def ref06_In_o : Exits := [(.ret, ⟨[.b .bool, .r [.b (.int .u32), .b (.int .u32)]], 18, [(4, .v)], [⟨0, 0, .row false 83 [.b (.int .u32), .b (.int .u32)]⟩]⟩)]
noncomputable def ref06_In_s : TSum := TSum.of (baseC (fun _ => none) (fun _ => [])) (Go.Proofs.Tryz.f60.results.toList) 1 ref06_In_i ref06_In_o (fun v => ref06_In v.1 v.2)
noncomputable def ref06_In_z : Code := Option.getD Go.Proofs.Tryz.f60.body .skip
noncomputable def ref06_In_x (gl : Glob) : TCtx := { baseC gl (lookS [(72, [ref06_Has_s])]) with inl := lookI [], fuel := 0, loops := lookL [(2, ref06_In_l2)], cuts := lookL [] }
theorem ref06_In_v {gl : Glob} (hg : Gs gl) : ValidS Go.Proofs.Tryz.prog gl 60 ref06_In_s := by
  refine validS_of (c := ref06_In_x gl) ?_ hm_ Go.Proofs.Tryz.func60 (body := ref06_In_z) ?_ ?_ ?_ ?_ ?_ ?_ ?_ ?_ ?_
  · exact tok_of tyB_ok cmpB_ok (.cons (.cons (ref06_Has_v hg) .nil) (hb_ 72 Go.Proofs.Tryz.func72 (by kernel_rfl) (by kernel_rfl)) .nil) .nil
  · kernel_rfl
  · rfl
  · exact annOK_by (l := [∀ v, ref06_In_l2.body v = (roundT (ref06_In_x gl) ref06_In_l2.pat ref06_In_l2.exits (subAt [1, 0, 1, 0, 0] ref06_In_z) v).run]) (by kernel_rfl) (⟨fun (a0, a1, a2) => Eq.symm (by kernel_rfl), trivial⟩)
  · exact fun (a0, a1) => Eq.symm (by kernel_rfl)
  · kernel_rfl
  · kernel_rfl
  · exact exitX_of (.cons (fun v => by kernel_rfl) .nil)
  · rfl
  · rfl
/-! sabretache/sabretacheref06.In -/
noncomputable def ref06_In_i2_l2 : Loop1 := ⟨⟨[.b (.int .u32), .b (.int .i64), .r [.b (.int .u32), .b (.int .u32)]], 18, [(0, (.own 0)), (1, .v), (5, .v)], [⟨0, 0, .row true 83 [.b (.int .u32), .b (.int .u32)]⟩]⟩, [(.ret, ⟨[.b .bool, .r [.b (.int .u32), .b (.int .u32)]], 18, [(4, .v)], [⟨0, 0, .row true 83 [.b (.int .u32), .b (.int .u32)]⟩]⟩), (.exit 0, ⟨[.r [.b (.int .u32), .b (.int .u32)]], 18, [], [⟨0, 0, .row true 83 [.b (.int .u32), .b (.int .u32)]⟩]⟩)], ref06_In_i2_b2⟩
noncomputable def ref06_In_i2_i : Pat := ⟨[.b (.int .u32), .r [.b (.int .u32), .b (.int .u32)]], 18, [(0, (.own 0)), (1, .v)], [⟨0, 0, .row true 83 [.b (.int .u32), .b (.int .u32)]⟩]⟩
noncomputable def ref06_In_i2_o : Exits := [(.ret, ⟨[.b .bool, .r [.b (.int .u32), .b (.int .u32)]], 18, [(4, .v)], [⟨0, 0, .row true 83 [.b (.int .u32), .b (.int .u32)]⟩]⟩)]
noncomputable def ref06_In_i2_s : TSum := TSum.of (baseC (fun _ => none) (fun _ => [])) (Go.Proofs.Tryz.f60.results.toList) 1 ref06_In_i2_i ref06_In_i2_o (fun v => ref06_In_i2 v.1 v.2)
noncomputable def ref06_In_i2_z : Code := Option.getD Go.Proofs.Tryz.f60.body .skip
noncomputable def ref06_In_i2_x (gl : Glob) : TCtx := { baseC gl (lookS [(72, [ref06_Has_s])]) with inl := lookI [], fuel := 0, loops := lookL [(2, ref06_In_i2_l2)], cuts := lookL [] }
theorem ref06_In_i2_v {gl : Glob} (hg : Gs gl) : ValidS Go.Proofs.Tryz.prog gl 60 ref06_In_i2_s := by
  refine validS_of (c := ref06_In_i2_x gl) ?_ hm_ Go.Proofs.Tryz.func60 (body := ref06_In_i2_z) ?_ ?_ ?_ ?_ ?_ ?_ ?_ ?_ ?_
  · exact tok_of tyB_ok cmpB_ok (.cons (.cons (ref06_Has_v hg) .nil) (hb_ 72 Go.Proofs.Tryz.func72 (by kernel_rfl) (by kernel_rfl)) .nil) .nil
  · kernel_rfl
  · rfl
  · exact annOK_by (l := [∀ v, ref06_In_i2_l2.body v = (roundT (ref06_In_i2_x gl) ref06_In_i2_l2.pat ref06_In_i2_l2.exits (subAt [1, 0, 1, 0, 0] ref06_In_i2_z) v).run]) (by kernel_rfl) (⟨fun (a0, a1, a2) => Eq.symm (by kernel_rfl), trivial⟩)
  · exact fun (a0, a1) => Eq.symm (by kernel_rfl)
  · kernel_rfl
  · kernel_rfl
  · exact exitX_of (.cons (fun v => by kernel_rfl) .nil)
  · rfl
  · rfl
/-! sabretache/sabretachelaw08.TablesMerges -/
noncomputable def law08_TablesMerges_l10 : Loop1 := ⟨⟨[.b (.int .i64), .b (.int .i64), .r [.b (.int .u32), .b (.int .u32)], .r [.b (.int .u32), .b (.int .u32)], .r [.b (.int .u32), .b (.int .u32)], .r [.b (.int .u32), .b (.int .u32)], .r [.b (.int .u32), .b (.int .u32)], .r [.b (.int .u32)], .r [.b (.int .u32), .b (.int .u32)]], 124, [(0, (.own 0)), (1, (.own 1)), (7, (.own 1270)), (8, (.own 1290)), (9, (.own 1330)), (10, (.own 148)), (53, (.own 149)), (54, .v), (55, .v)], [⟨0, 0, .row false 83 [.b (.int .u32), .b (.int .u32)]⟩, ⟨1, 0, .row false 83 [.b (.int .u32), .b (.int .u32)]⟩, ⟨1270, 0, .row true 83 [.b (.int .u32), .b (.int .u32)]⟩, ⟨1290, 0, .row true 83 [.b (.int .u32), .b (.int .u32)]⟩, ⟨1330, 0, .row true 83 [.b (.int .u32), .b (.int .u32)]⟩, ⟨148, 0, .row true 22 [.b (.int .u32)]⟩, ⟨149, 0, .row true 83 [.b (.int .u32), .b (.int .u32)]⟩]⟩, [(.exit 0, ⟨[.r [.b (.int .u32), .b (.int .u32)], .r [.b (.int .u32), .b (.int .u32)], .r [.b (.int .u32), .b (.int .u32)], .r [.b (.int .u32), .b (.int .u32)], .r [.b (.int .u32), .b (.int .u32)], .r [.b (.int .u32)]], 124, [(0, (.own 0)), (1, (.own 1)), (7, (.own 1270)), (8, (.own 1290)), (9, (.own 1330)), (10, (.own 148))], [⟨0, 0, .row false 83 [.b (.int .u32), .b (.int .u32)]⟩, ⟨1, 0, .row false 83 [.b (.int .u32), .b (.int .u32)]⟩, ⟨1270, 0, .row true 83 [.b (.int .u32), .b (.int .u32)]⟩, ⟨1290, 0, .row true 83 [.b (.int .u32), .b (.int .u32)]⟩, ⟨1330, 0, .row true 83 [.b (.int .u32), .b (.int .u32)]⟩, ⟨148, 0, .row true 22 [.b (.int .u32)]⟩]⟩)], law08_TablesMerges_b10⟩
noncomputable def law08_TablesMerges_l19 : Loop1 := ⟨⟨[.b (.int .i64), .b (.int .i64), .r [.b (.int .u32), .b (.int .u32)], .r [.b (.int .u32), .b (.int .u32)], .r [.b (.int .u32), .b (.int .u32)], .r [.b (.int .u32), .b (.int .u32)], .r [.b (.int .u32), .b (.int .u32)], .r [.b (.int .u32)]], 124, [(0, (.own 0)), (1, (.own 1)), (7, (.own 1270)), (8, (.own 1290)), (9, (.own 1330)), (85, (.own 148)), (86, .v), (87, .v)], [⟨0, 0, .row false 83 [.b (.int .u32), .b (.int .u32)]⟩, ⟨1, 0, .row false 83 [.b (.int .u32), .b (.int .u32)]⟩, ⟨1270, 0, .row true 83 [.b (.int .u32), .b (.int .u32)]⟩, ⟨1290, 0, .row true 83 [.b (.int .u32), .b (.int .u32)]⟩, ⟨1330, 0, .row true 83 [.b (.int .u32), .b (.int .u32)]⟩, ⟨148, 0, .row true 22 [.b (.int .u32)]⟩]⟩, [(.exit 2, ⟨[.r [.b (.int .u32), .b (.int .u32)], .r [.b (.int .u32), .b (.int .u32)]], 124, [], [⟨0, 0, .row false 83 [.b (.int .u32), .b (.int .u32)]⟩, ⟨1, 0, .row false 83 [.b (.int .u32), .b (.int .u32)]⟩]⟩), (.ret, ⟨[.b .bool, .r [.b (.int .u32), .b (.int .u32)], .r [.b (.int .u32), .b (.int .u32)]], 124, [(6, .v)], [⟨0, 0, .row false 83 [.b (.int .u32), .b (.int .u32)]⟩, ⟨1, 0, .row false 83 [.b (.int .u32), .b (.int .u32)]⟩]⟩)], law08_TablesMerges_b19⟩
noncomputable def law08_TablesMerges_i : Pat := ⟨[.b (.int .u32), .r [.b (.int .u32), .b (.int .u32)], .r [.b (.int .u32), .b (.int .u32)]], 124, [(0, (.own 0)), (1, (.own 1)), (2, .v)], [⟨0, 0, .row false 83 [.b (.int .u32), .b (.int .u32)]⟩, ⟨1, 0, .row false 83 [.b (.int .u32), .b (.int .u32)]⟩]⟩
noncomputable def law08_TablesMerges_o : Exits := [(.ret, ⟨[.b .bool, .r [.b (.int .u32), .b (.int .u32)], .r [.b (.int .u32), .b (.int .u32)]], 124, [(6, .v)], [⟨0, 0, .row false 83 [.b (.int .u32), .b (.int .u32)]⟩, ⟨1, 0, .row false 83 [.b (.int .u32), .b (.int .u32)]⟩]⟩)]
noncomputable def law08_TablesMerges_s : TSum := TSum.of (baseC (fun _ => none) (fun _ => [])) (Go.Proofs.Tryz.f12.results.toList) 2 law08_TablesMerges_i law08_TablesMerges_o (fun v => law08_TablesMerges v.1 v.2.1 v.2.2)
noncomputable def law08_TablesMerges_z : Code := Option.getD Go.Proofs.Tryz.f12.body .skip
noncomputable def law08_TablesMerges_x (gl : Glob) : TCtx := { baseC gl (lookS [(14, [law08_awake_s]), (56, [tables_Merge_s]), (57, [tables_Outside_s]), (58, [tables_Union_s]), (59, [ref08_Merged_s]), (60, [ref06_In_s, ref06_In_i2_s])]) with inl := lookI [], fuel := 0, loops := lookL [(10, law08_TablesMerges_l10), (19, law08_TablesMerges_l19)], cuts := lookL [] }
theorem law08_TablesMerges_v {gl : Glob} (hg : Gs gl) : ValidS Go.Proofs.Tryz.prog gl 12 law08_TablesMerges_s := by
  refine validS_of (c := law08_TablesMerges_x gl) ?_ hm_ Go.Proofs.Tryz.func12 (body := law08_TablesMerges_z) ?_ ?_ ?_ ?_ ?_ ?_ ?_ ?_ ?_
  · exact tok_of tyB_ok cmpB_ok (.cons (.cons (law08_awake_v hg) .nil) (hb_ 14 Go.Proofs.Tryz.func14 (by kernel_rfl) (by kernel_rfl)) (.cons (.cons (tables_Merge_v hg) .nil) (hb_ 56 Go.Proofs.Tryz.func56 (by kernel_rfl) (by kernel_rfl)) (.cons (.cons (tables_Outside_v hg) .nil) (hb_ 57 Go.Proofs.Tryz.func57 (by kernel_rfl) (by kernel_rfl)) (.cons (.cons (tables_Union_v hg) .nil) (hb_ 58 Go.Proofs.Tryz.func58 (by kernel_rfl) (by kernel_rfl)) (.cons (.cons (ref08_Merged_v hg) .nil) (hb_ 59 Go.Proofs.Tryz.func59 (by kernel_rfl) (by kernel_rfl)) (.cons (.cons (ref06_In_v hg) (.cons (ref06_In_i2_v hg) .nil)) (hb_ 60 Go.Proofs.Tryz.func60 (by kernel_rfl) (by kernel_rfl)) .nil)))))) .nil
  · kernel_rfl
  · rfl
  · exact annOK_by (l := [∀ v, law08_TablesMerges_l10.body v = (roundT (law08_TablesMerges_x gl) law08_TablesMerges_l10.pat law08_TablesMerges_l10.exits (subAt [1, 1, 1, 1, 1, 1, 0, 1, 0, 0] law08_TablesMerges_z) v).run, ∀ v, law08_TablesMerges_l19.body v = (roundT (law08_TablesMerges_x gl) law08_TablesMerges_l19.pat law08_TablesMerges_l19.exits (subAt [1, 1, 1, 1, 1, 1, 1, 0, 1, 0, 0] law08_TablesMerges_z) v).run]) (by kernel_rfl) (⟨fun (a0, a1, a2, a3, a4, a5, a6, a7, a8) => Eq.symm (by kernel_rfl), fun (a0, a1, a2, a3, a4, a5, a6, a7) => Eq.symm (by kernel_rfl), trivial⟩)
  · exact fun (a0, a1, a2) => Eq.symm (by kernel_rfl)
  · kernel_rfl
  · kernel_rfl
  · exact exitX_of (.cons (fun v => by kernel_rfl) .nil)
  · rfl
  · rfl
end Go.Tx
