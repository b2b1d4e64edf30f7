/- Part 21 of the proof of the statement that the last part names; it asks for no condition of its own. Here: GenSpB. -/
import Derived.Test.YtgkfbembnlgahaaGreatDoorQag
import Derived.Test.YtgkfbembnlgahaaGreatDoorQan
import Derived.Test.YtgkfbembnlgahaaGreatDoorQas
import Derived.Test.YtgkfbembnlgahaaGreatDoorQat
set_option linter.all false
set_option linter.unusedVariables false
set_option maxRecDepth 100000
set_option maxHeartbeats 0
namespace Go.Tx
open Go Go.Sx
noncomputable def tables_Tables_Assigned_1_i : Pat := ⟨[.b (.int .u32), .b (.int .u32), .b .str, .b .str, .b .str, .b .bool, .b .bool], 10, [(0, (.agg [.v, .v, .v, .v, .v, .v])), (1, (.ptr 0 0))], [⟨0, 0, .cells [.v]⟩]⟩
noncomputable def tables_Tables_Assigned_1_o : Exits := [(.ret, ⟨[.b .bool, .b .bool], 10, [(3, .v)], [⟨0, 0, .cells [.v]⟩]⟩)]
noncomputable def tables_Tables_Assigned_1_s : TSum := TSum.of (baseC (fun _ => none) (fun _ => [])) (Go.Proofs.Tryz.f131.results.toList) 1 tables_Tables_Assigned_1_i tables_Tables_Assigned_1_o (fun v => tables_Tables_Assigned_1 v.1 v.2.1 v.2.2.1 v.2.2.2.1 v.2.2.2.2.1 v.2.2.2.2.2.1 v.2.2.2.2.2.2)
noncomputable def tables_Tables_Assigned_1_z : Code := Option.getD Go.Proofs.Tryz.f131.body .skip
noncomputable def tables_Tables_Assigned_1_x (gl : Glob) : TCtx := { baseC gl (lookS []) with inl := lookI [], fuel := 0, loops := lookL [], cuts := lookL [] }
theorem tables_Tables_Assigned_1_v {gl : Glob} (hg : Gs gl) : ValidS Go.Proofs.Tryz.prog gl 131 tables_Tables_Assigned_1_s := by
  refine validS_of (c := tables_Tables_Assigned_1_x gl) ?_ hm_ Go.Proofs.Tryz.func131 (body := tables_Tables_Assigned_1_z) ?_ ?_ ?_ ?_ ?_ ?_ ?_ ?_ ?_
  · exact tok_of tyB_ok cmpB_ok .nil .nil
  · kernel_rfl
  · rfl
  · exact annOK_by (l := []) (by kernel_rfl) (trivial)
  · exact fun (a0, a1, a2, a3, a4, a5, a6) => Eq.symm (by kernel_rfl)
  · kernel_rfl
  · kernel_rfl
  · exact exitX_of (.cons (fun v => by kernel_rfl) .nil)
  · rfl
  · rfl
noncomputable def tables_Tables_ranged_l5 : Loop1 := ⟨⟨[.b (.int .i64), .b (.int .i64), .b .bool, .r KzR, .r KzT, .r KzD, .r KzT, .r KzT, .r KzN, .r KzP], 31, [(1, (.fn 131 [] [(.ptr 1 0)])), (5, (.own 5000)), (14, (.own 2)), (15, .v), (16, .v)], [⟨1, 0, .cells [.v]⟩, ⟨2, 0, .row true 98 KzR⟩, ⟨0, 0, .cells [(.own 2), (.own 3), (.own 4), (.own 5), (.own 6), (.own 7)]⟩, ⟨3, 0, .row true 85 KzT⟩, ⟨4, 0, .row true 68 KzD⟩, ⟨5, 0, .row true 87 KzT⟩, ⟨6, 0, .row true 87 KzT⟩, ⟨7, 0, .row true 100 KzN⟩, ⟨5000, 0, .row true 83 KzP⟩]⟩, [(.exit 0, ⟨[.r KzP, .b .bool, .r KzR, .r KzT, .r KzD, .r KzT, .r KzT, .r KzN], 31, [(5, (.own 5000))], [⟨5000, 0, .row true 83 KzP⟩, ⟨1, 0, .cells [.v]⟩, ⟨2, 0, .row true 98 KzR⟩, ⟨0, 0, .cells [(.own 2), (.own 3), (.own 4), (.own 5), (.own 6), (.own 7)]⟩, ⟨3, 0, .row true 85 KzT⟩, ⟨4, 0, .row true 68 KzD⟩, ⟨5, 0, .row true 87 KzT⟩, ⟨6, 0, .row true 87 KzT⟩, ⟨7, 0, .row true 100 KzN⟩]⟩)], tables_Tables_ranged_b5⟩
noncomputable def tables_Tables_ranged_i : Pat := ⟨[.b .bool, .r KzR, .r KzT, .r KzD, .r KzT, .r KzT, .r KzN], 31, [(0, (.ptr 0 0)), (1, (.fn 131 [] [(.ptr 1 0)]))], [⟨0, 0, .cells [(.own 2), (.own 3), (.own 4), (.own 5), (.own 6), (.own 7)]⟩, ⟨1, 0, .cells [.v]⟩, ⟨2, 0, .row true 98 KzR⟩, ⟨3, 0, .row true 85 KzT⟩, ⟨4, 0, .row true 68 KzD⟩, ⟨5, 0, .row true 87 KzT⟩, ⟨6, 0, .row true 87 KzT⟩, ⟨7, 0, .row true 100 KzN⟩]⟩
noncomputable def tables_Tables_ranged_o : Exits := [(.ret, ⟨[.r KzP, .b .bool, .r KzR, .r KzT, .r KzD, .r KzT, .r KzT, .r KzN], 31, [(4, (.own 1300))], [⟨1300, 0, .row true 83 KzP⟩, ⟨1, 0, .cells [.v]⟩, ⟨2, 0, .row true 98 KzR⟩, ⟨0, 0, .cells [(.own 2), (.own 3), (.own 4), (.own 5), (.own 6), (.own 7)]⟩, ⟨3, 0, .row true 85 KzT⟩, ⟨4, 0, .row true 68 KzD⟩, ⟨5, 0, .row true 87 KzT⟩, ⟨6, 0, .row true 87 KzT⟩, ⟨7, 0, .row true 100 KzN⟩]⟩)]
noncomputable def tables_Tables_ranged_s : TSum := TSum.of (baseC (fun _ => none) (fun _ => [])) (Go.Proofs.Tryz.f130.results.toList) 8 tables_Tables_ranged_i tables_Tables_ranged_o (fun v => tables_Tables_ranged v.1 v.2.1 v.2.2.1 v.2.2.2.1 v.2.2.2.2.1 v.2.2.2.2.2.1 v.2.2.2.2.2.2)
noncomputable def tables_Tables_ranged_z : Code := Option.getD Go.Proofs.Tryz.f130.body .skip
noncomputable def tables_Tables_ranged_x (gl : Glob) : TCtx := { baseC gl (lookS [(56, [tables_Merge_i2_s]), (131, [tables_Tables_Assigned_1_s])]) with inl := lookI [], fuel := 0, loops := lookL [(5, tables_Tables_ranged_l5)], cuts := lookL [] }
theorem tables_Tables_ranged_v {gl : Glob} (hg : Gs gl) : ValidS Go.Proofs.Tryz.prog gl 130 tables_Tables_ranged_s := by
  refine validS_of (c := tables_Tables_ranged_x gl) ?_ hm_ Go.Proofs.Tryz.func130 (body := tables_Tables_ranged_z) ?_ ?_ ?_ ?_ ?_ ?_ ?_ ?_ ?_
  · exact tok_of tyB_ok cmpB_ok (.cons (.cons (tables_Merge_i2_v hg) .nil) (hb_ 56 Go.Proofs.Tryz.func56 (by kernel_rfl) (by kernel_rfl)) (.cons (.cons (tables_Tables_Assigned_1_v hg) .nil) (hb_ 131 Go.Proofs.Tryz.func131 (by kernel_rfl) (by kernel_rfl)) .nil)) .nil
  · kernel_rfl
  · rfl
  · exact annOK_by (l := [∀ v, tables_Tables_ranged_l5.body v = (roundT (tables_Tables_ranged_x gl) tables_Tables_ranged_l5.pat tables_Tables_ranged_l5.exits (subAt [1, 1, 1, 0, 1, 0, 0] tables_Tables_ranged_z) v).run]) (by kernel_rfl) (⟨fun (a0, a1, a2, a3, a4, a5, a6, a7, a8, a9) => Eq.symm (by kernel_rfl), trivial⟩)
  · exact fun (a0, a1, a2, a3, a4, a5, a6) => Eq.symm (by kernel_rfl)
  · kernel_rfl
  · kernel_rfl
  · exact exitX_of (.cons (fun v => by kernel_rfl) .nil)
  · rfl
  · rfl
noncomputable def tables_Tables_Assigned_i : Pat := ⟨[.b .bool, .r KzR, .r KzT, .r KzD, .r KzT, .r KzT, .r KzN], 8, [(0, (.ptr 0 0)), (1, .v)], [⟨0, 0, .cells [(.own 1), (.own 2), (.own 3), (.own 4), (.own 5), (.own 6)]⟩, ⟨1, 0, .row true 98 KzR⟩, ⟨2, 0, .row true 85 KzT⟩, ⟨3, 0, .row true 68 KzD⟩, ⟨4, 0, .row true 87 KzT⟩, ⟨5, 0, .row true 87 KzT⟩, ⟨6, 0, .row true 100 KzN⟩]⟩
noncomputable def tables_Tables_Assigned_o : Exits := [(.ret, ⟨[.r KzP, .r KzR, .r KzT, .r KzD, .r KzT, .r KzT, .r KzN], 8, [(4, (.own 1070))], [⟨1070, 0, .row true 83 KzP⟩, ⟨0, 0, .cells [(.own 1), (.own 2), (.own 3), (.own 4), (.own 5), (.own 6)]⟩, ⟨1, 0, .row true 98 KzR⟩, ⟨2, 0, .row true 85 KzT⟩, ⟨3, 0, .row true 68 KzD⟩, ⟨4, 0, .row true 87 KzT⟩, ⟨5, 0, .row true 87 KzT⟩, ⟨6, 0, .row true 100 KzN⟩]⟩)]
noncomputable def tables_Tables_Assigned_s : TSum := TSum.of (baseC (fun _ => none) (fun _ => [])) (Go.Proofs.Tryz.f62.results.toList) 7 tables_Tables_Assigned_i tables_Tables_Assigned_o (fun v => tables_Tables_Assigned v.1 v.2.1 v.2.2.1 v.2.2.2.1 v.2.2.2.2.1 v.2.2.2.2.2.1 v.2.2.2.2.2.2)
noncomputable def tables_Tables_Assigned_z : Code := Option.getD Go.Proofs.Tryz.f62.body .skip
noncomputable def tables_Tables_Assigned_x (gl : Glob) : TCtx := { baseC gl (lookS [(130, [tables_Tables_ranged_s])]) with inl := lookI [], fuel := 0, loops := lookL [], cuts := lookL [] }
theorem tables_Tables_Assigned_v {gl : Glob} (hg : Gs gl) : ValidS Go.Proofs.Tryz.prog gl 62 tables_Tables_Assigned_s := by
  refine validS_of (c := tables_Tables_Assigned_x gl) ?_ hm_ Go.Proofs.Tryz.func62 (body := tables_Tables_Assigned_z) ?_ ?_ ?_ ?_ ?_ ?_ ?_ ?_ ?_
  · exact tok_of tyB_ok cmpB_ok (.cons (.cons (tables_Tables_ranged_v hg) .nil) (hb_ 130 Go.Proofs.Tryz.func130 (by kernel_rfl) (by kernel_rfl)) .nil) .nil
  · kernel_rfl
  · rfl
  · exact annOK_by (l := []) (by kernel_rfl) (trivial)
  · exact fun (a0, a1, a2, a3, a4, a5, a6) => Eq.symm (by kernel_rfl)
  · kernel_rfl
  · kernel_rfl
  · exact exitX_of (.cons (fun v => by kernel_rfl) .nil)
  · rfl
  · rfl
noncomputable def slices_Index___l2 : Loop1 := ⟨⟨[.b .str, .b (.int .i64), .b (.int .i64), .r [.b .str]], 19, [(0, (.own 0)), (1, .v), (7, .v), (8, .v)], [⟨0, 0, .row false 9 [.b .str]⟩]⟩, [(.ret, ⟨[.b (.int .i64), .r [.b .str]], 19, [(4, .v)], [⟨0, 0, .row false 9 [.b .str]⟩]⟩), (.exit 0, ⟨[.r [.b .str]], 19, [], [⟨0, 0, .row false 9 [.b .str]⟩]⟩)], slices_Index___b2⟩
noncomputable def slices_Index___i : Pat := ⟨[.b .str, .r [.b .str]], 19, [(0, (.own 0)), (1, .v)], [⟨0, 0, .row false 9 [.b .str]⟩]⟩
noncomputable def slices_Index___o : Exits := [(.ret, ⟨[.b (.int .i64), .r [.b .str]], 19, [(4, .v)], [⟨0, 0, .row false 9 [.b .str]⟩]⟩)]
noncomputable def slices_Index___s : TSum := TSum.of (baseC (fun _ => none) (fun _ => [])) (Go.Proofs.Tryz.f175.results.toList) 1 slices_Index___i slices_Index___o (fun v => slices_Index__ v.1 v.2)
noncomputable def slices_Index___z : Code := Option.getD Go.Proofs.Tryz.f175.body .skip
noncomputable def slices_Index___x (gl : Glob) : TCtx := { baseC gl (lookS []) with inl := lookI [], fuel := 0, loops := lookL [(2, slices_Index___l2)], cuts := lookL [] }
theorem slices_Index___v {gl : Glob} (hg : Gs gl) : ValidS Go.Proofs.Tryz.prog gl 175 slices_Index___s := by
  refine validS_of (c := slices_Index___x gl) ?_ hm_ Go.Proofs.Tryz.func175 (body := slices_Index___z) ?_ ?_ ?_ ?_ ?_ ?_ ?_ ?_ ?_
  · exact tok_of tyB_ok cmpB_ok .nil .nil
  · kernel_rfl
  · rfl
  · exact annOK_by (l := [∀ v, slices_Index___l2.body v = (roundT (slices_Index___x gl) slices_Index___l2.pat slices_Index___l2.exits (subAt [1, 0, 1, 0, 0] slices_Index___z) v).run]) (by kernel_rfl) (⟨fun (a0, a1, a2, a3) => Eq.symm (by kernel_rfl), trivial⟩)
  · exact fun (a0, a1) => Eq.symm (by kernel_rfl)
  · kernel_rfl
  · kernel_rfl
  · exact exitX_of (.cons (fun v => by kernel_rfl) .nil)
  · rfl
  · rfl
noncomputable def slices_Contains___i : Pat := ⟨[.b .str, .r [.b .str]], 9, [(0, (.own 0)), (1, .v)], [⟨0, 0, .row false 9 [.b .str]⟩]⟩
noncomputable def slices_Contains___o : Exits := [(.ret, ⟨[.b .bool, .r [.b .str]], 9, [(4, .v)], [⟨0, 0, .row false 9 [.b .str]⟩]⟩)]
noncomputable def slices_Contains___s : TSum := TSum.of (baseC (fun _ => none) (fun _ => [])) (Go.Proofs.Tryz.f133.results.toList) 1 slices_Contains___i slices_Contains___o (fun v => slices_Contains__ v.1 v.2)
noncomputable def slices_Contains___z : Code := Option.getD Go.Proofs.Tryz.f133.body .skip
noncomputable def slices_Contains___x (gl : Glob) : TCtx := { baseC gl (lookS [(175, [slices_Index___s])]) with inl := lookI [], fuel := 0, loops := lookL [], cuts := lookL [] }
theorem slices_Contains___v {gl : Glob} (hg : Gs gl) : ValidS Go.Proofs.Tryz.prog gl 133 slices_Contains___s := by
  refine validS_of (c := slices_Contains___x gl) ?_ hm_ Go.Proofs.Tryz.func133 (body := slices_Contains___z) ?_ ?_ ?_ ?_ ?_ ?_ ?_ ?_ ?_
  · exact tok_of tyB_ok cmpB_ok (.cons (.cons (slices_Index___v hg) .nil) (hb_ 175 Go.Proofs.Tryz.func175 (by kernel_rfl) (by kernel_rfl)) .nil) .nil
  · kernel_rfl
  · rfl
  · exact annOK_by (l := []) (by kernel_rfl) (trivial)
  · exact fun (a0, a1) => Eq.symm (by kernel_rfl)
  · kernel_rfl
  · kernel_rfl
  · exact exitX_of (.cons (fun v => by kernel_rfl) .nil)
  · rfl
  · rfl
noncomputable def tables_Tables_Cats_1_i : Pat := ⟨[.b (.int .u32), .b (.int .u32), .b .str, .b .str, .b .str, .b .bool, .r [.b .str]], 8, [(0, (.agg [.v, .v, .v, .v, .v, .v])), (1, (.ptr 0 0))], [⟨0, 0, .cells [(.own 1)]⟩, ⟨1, 0, .row false 9 [.b .str]⟩]⟩
noncomputable def tables_Tables_Cats_1_o : Exits := [(.ret, ⟨[.b .bool, .r [.b .str]], 8, [(3, .v)], [⟨0, 0, .cells [(.own 1)]⟩, ⟨1, 0, .row false 9 [.b .str]⟩]⟩)]
noncomputable def tables_Tables_Cats_1_s : TSum := TSum.of (baseC (fun _ => none) (fun _ => [])) (Go.Proofs.Tryz.f132.results.toList) 2 tables_Tables_Cats_1_i tables_Tables_Cats_1_o (fun v => tables_Tables_Cats_1 v.1 v.2.1 v.2.2.1 v.2.2.2.1 v.2.2.2.2.1 v.2.2.2.2.2.1 v.2.2.2.2.2.2)
noncomputable def tables_Tables_Cats_1_z : Code := Option.getD Go.Proofs.Tryz.f132.body .skip
noncomputable def tables_Tables_Cats_1_x (gl : Glob) : TCtx := { baseC gl (lookS [(133, [slices_Contains___s])]) with inl := lookI [], fuel := 0, loops := lookL [], cuts := lookL [] }
theorem tables_Tables_Cats_1_v {gl : Glob} (hg : Gs gl) : ValidS Go.Proofs.Tryz.prog gl 132 tables_Tables_Cats_1_s := by
  refine validS_of (c := tables_Tables_Cats_1_x gl) ?_ hm_ Go.Proofs.Tryz.func132 (body := tables_Tables_Cats_1_z) ?_ ?_ ?_ ?_ ?_ ?_ ?_ ?_ ?_
  · exact tok_of tyB_ok cmpB_ok (.cons (.cons (slices_Contains___v hg) .nil) (hb_ 133 Go.Proofs.Tryz.func133 (by kernel_rfl) (by kernel_rfl)) .nil) .nil
  · kernel_rfl
  · rfl
  · exact annOK_by (l := []) (by kernel_rfl) (trivial)
  · exact fun (a0, a1, a2, a3, a4, a5, a6) => Eq.symm (by kernel_rfl)
  · kernel_rfl
  · kernel_rfl
  · exact exitX_of (.cons (fun v => by kernel_rfl) .nil)
  · rfl
  · rfl
noncomputable def tables_Tables_ranged_i2_l5 : Loop1 := ⟨⟨[.b (.int .i64), .b (.int .i64), .r KzR, .r KzT, .r KzD, .r KzT, .r KzT, .r KzN, .r [.b .str], .r KzP], 31, [(1, (.fn 132 [] [(.ptr 1 0)])), (5, (.own 5000)), (14, (.own 2)), (15, .v), (16, .v)], [⟨1, 0, .cells [(.own 8)]⟩, ⟨2, 0, .row true 98 KzR⟩, ⟨0, 0, .cells [(.own 2), (.own 3), (.own 4), (.own 5), (.own 6), (.own 7)]⟩, ⟨3, 0, .row true 85 KzT⟩, ⟨4, 0, .row true 68 KzD⟩, ⟨5, 0, .row true 87 KzT⟩, ⟨6, 0, .row true 87 KzT⟩, ⟨7, 0, .row true 100 KzN⟩, ⟨8, 0, .row false 9 [.b .str]⟩, ⟨5000, 0, .row true 83 KzP⟩]⟩, [(.exit 0, ⟨[.r KzP, .r KzR, .r KzT, .r KzD, .r KzT, .r KzT, .r KzN, .r [.b .str]], 31, [(5, (.own 5000))], [⟨5000, 0, .row true 83 KzP⟩, ⟨1, 0, .cells [(.own 8)]⟩, ⟨2, 0, .row true 98 KzR⟩, ⟨0, 0, .cells [(.own 2), (.own 3), (.own 4), (.own 5), (.own 6), (.own 7)]⟩, ⟨3, 0, .row true 85 KzT⟩, ⟨4, 0, .row true 68 KzD⟩, ⟨5, 0, .row true 87 KzT⟩, ⟨6, 0, .row true 87 KzT⟩, ⟨7, 0, .row true 100 KzN⟩, ⟨8, 0, .row false 9 [.b .str]⟩]⟩)], tables_Tables_ranged_i2_b5⟩
noncomputable def tables_Tables_ranged_i2_i : Pat := ⟨[.r KzR, .r KzT, .r KzD, .r KzT, .r KzT, .r KzN, .r [.b .str]], 31, [(0, (.ptr 0 0)), (1, (.fn 132 [] [(.ptr 1 0)]))], [⟨0, 0, .cells [(.own 2), (.own 3), (.own 4), (.own 5), (.own 6), (.own 7)]⟩, ⟨1, 0, .cells [(.own 8)]⟩, ⟨2, 0, .row true 98 KzR⟩, ⟨3, 0, .row true 85 KzT⟩, ⟨4, 0, .row true 68 KzD⟩, ⟨5, 0, .row true 87 KzT⟩, ⟨6, 0, .row true 87 KzT⟩, ⟨7, 0, .row true 100 KzN⟩, ⟨8, 0, .row false 9 [.b .str]⟩]⟩
noncomputable def tables_Tables_ranged_i2_o : Exits := [(.ret, ⟨[.r KzP, .r KzR, .r KzT, .r KzD, .r KzT, .r KzT, .r KzN, .r [.b .str]], 31, [(4, (.own 1300))], [⟨1300, 0, .row true 83 KzP⟩, ⟨1, 0, .cells [(.own 8)]⟩, ⟨2, 0, .row true 98 KzR⟩, ⟨0, 0, .cells [(.own 2), (.own 3), (.own 4), (.own 5), (.own 6), (.own 7)]⟩, ⟨3, 0, .row true 85 KzT⟩, ⟨4, 0, .row true 68 KzD⟩, ⟨5, 0, .row true 87 KzT⟩, ⟨6, 0, .row true 87 KzT⟩, ⟨7, 0, .row true 100 KzN⟩, ⟨8, 0, .row false 9 [.b .str]⟩]⟩)]
noncomputable def tables_Tables_ranged_i2_s : TSum := TSum.of (baseC (fun _ => none) (fun _ => [])) (Go.Proofs.Tryz.f130.results.toList) 9 tables_Tables_ranged_i2_i tables_Tables_ranged_i2_o (fun v => tables_Tables_ranged_i2 v.1 v.2.1 v.2.2.1 v.2.2.2.1 v.2.2.2.2.1 v.2.2.2.2.2.1 v.2.2.2.2.2.2)
noncomputable def tables_Tables_ranged_i2_z : Code := Option.getD Go.Proofs.Tryz.f130.body .skip
noncomputable def tables_Tables_ranged_i2_x (gl : Glob) : TCtx := { baseC gl (lookS [(56, [tables_Merge_i2_s]), (132, [tables_Tables_Cats_1_s])]) with inl := lookI [], fuel := 0, loops := lookL [(5, tables_Tables_ranged_i2_l5)], cuts := lookL [] }
theorem tables_Tables_ranged_i2_v {gl : Glob} (hg : Gs gl) : ValidS Go.Proofs.Tryz.prog gl 130 tables_Tables_ranged_i2_s := by
  refine validS_of (c := tables_Tables_ranged_i2_x gl) ?_ hm_ Go.Proofs.Tryz.func130 (body := tables_Tables_ranged_i2_z) ?_ ?_ ?_ ?_ ?_ ?_ ?_ ?_ ?_
  · exact tok_of tyB_ok cmpB_ok (.cons (.cons (tables_Merge_i2_v hg) .nil) (hb_ 56 Go.Proofs.Tryz.func56 (by kernel_rfl) (by kernel_rfl)) (.cons (.cons (tables_Tables_Cats_1_v hg) .nil) (hb_ 132 Go.Proofs.Tryz.func132 (by kernel_rfl) (by kernel_rfl)) .nil)) .nil
  · kernel_rfl
  · rfl
  · exact annOK_by (l := [∀ v, tables_Tables_ranged_i2_l5.body v = (roundT (tables_Tables_ranged_i2_x gl) tables_Tables_ranged_i2_l5.pat tables_Tables_ranged_i2_l5.exits (subAt [1, 1, 1, 0, 1, 0, 0] tables_Tables_ranged_i2_z) v).run]) (by kernel_rfl) (⟨fun (a0, a1, a2, a3, a4, a5, a6, a7, a8, a9) => Eq.symm (by kernel_rfl), trivial⟩)
  · exact fun (a0, a1, a2, a3, a4, a5, a6) => Eq.symm (by kernel_rfl)
  · kernel_rfl
  · kernel_rfl
  · exact exitX_of (.cons (fun v => by kernel_rfl) .nil)
  · rfl
  · rfl
noncomputable def tables_Tables_Cats_i : Pat := ⟨[.r [.b .str], .r KzR, .r KzT, .r KzD, .r KzT, .r KzT, .r KzN], 8, [(0, (.ptr 0 0)), (1, (.own 1))], [⟨0, 0, .cells [(.own 2), (.own 3), (.own 4), (.own 5), (.own 6), (.own 7)]⟩, ⟨1, 0, .row false 9 [.b .str]⟩, ⟨2, 0, .row true 98 KzR⟩, ⟨3, 0, .row true 85 KzT⟩, ⟨4, 0, .row true 68 KzD⟩, ⟨5, 0, .row true 87 KzT⟩, ⟨6, 0, .row true 87 KzT⟩, ⟨7, 0, .row true 100 KzN⟩]⟩
noncomputable def tables_Tables_Cats_o : Exits := [(.ret, ⟨[.r KzP, .r [.b .str], .r KzR, .r KzT, .r KzD, .r KzT, .r KzT, .r KzN], 8, [(4, (.own 1070))], [⟨1070, 0, .row true 83 KzP⟩, ⟨0, 0, .cells [(.own 2), (.own 3), (.own 4), (.own 5), (.own 6), (.own 7)]⟩, ⟨1, 0, .row false 9 [.b .str]⟩, ⟨2, 0, .row true 98 KzR⟩, ⟨3, 0, .row true 85 KzT⟩, ⟨4, 0, .row true 68 KzD⟩, ⟨5, 0, .row true 87 KzT⟩, ⟨6, 0, .row true 87 KzT⟩, ⟨7, 0, .row true 100 KzN⟩]⟩)]
noncomputable def tables_Tables_Cats_s : TSum := TSum.of (baseC (fun _ => none) (fun _ => [])) (Go.Proofs.Tryz.f63.results.toList) 8 tables_Tables_Cats_i tables_Tables_Cats_o (fun v => tables_Tables_Cats v.1 v.2.1 v.2.2.1 v.2.2.2.1 v.2.2.2.2.1 v.2.2.2.2.2.1 v.2.2.2.2.2.2)
noncomputable def tables_Tables_Cats_z : Code := Option.getD Go.Proofs.Tryz.f63.body .skip
noncomputable def tables_Tables_Cats_x (gl : Glob) : TCtx := { baseC gl (lookS [(130, [tables_Tables_ranged_i2_s])]) with inl := lookI [], fuel := 0, loops := lookL [], cuts := lookL [] }
theorem tables_Tables_Cats_v {gl : Glob} (hg : Gs gl) : ValidS Go.Proofs.Tryz.prog gl 63 tables_Tables_Cats_s := by
  refine validS_of (c := tables_Tables_Cats_x gl) ?_ hm_ Go.Proofs.Tryz.func63 (body := tables_Tables_Cats_z) ?_ ?_ ?_ ?_ ?_ ?_ ?_ ?_ ?_
  · exact tok_of tyB_ok cmpB_ok (.cons (.cons (tables_Tables_ranged_i2_v hg) .nil) (hb_ 130 Go.Proofs.Tryz.func130 (by kernel_rfl) (by kernel_rfl)) .nil) .nil
  · kernel_rfl
  · rfl
  · exact annOK_by (l := []) (by kernel_rfl) (trivial)
  · exact fun (a0, a1, a2, a3, a4, a5, a6) => Eq.symm (by kernel_rfl)
  · kernel_rfl
  · kernel_rfl
  · exact exitX_of (.cons (fun v => by kernel_rfl) .nil)
  · rfl
  · rfl
noncomputable def ref08_One_l2 : Loop1 := ⟨⟨[.b .str, .b (.int .i64), .r [.b .str]], 18, [(0, (.own 0)), (1, .v), (5, .v)], [⟨0, 0, .row false 9 [.b .str]⟩]⟩, [(.ret, ⟨[.b .bool, .r [.b .str]], 18, [(4, .v)], [⟨0, 0, .row false 9 [.b .str]⟩]⟩), (.exit 0, ⟨[.r [.b .str]], 18, [], [⟨0, 0, .row false 9 [.b .str]⟩]⟩)], ref08_One_b2⟩
noncomputable def ref08_One_i : Pat := ⟨[.b .str, .r [.b .str]], 18, [(0, (.own 0)), (1, .v)], [⟨0, 0, .row false 9 [.b .str]⟩]⟩
noncomputable def ref08_One_o : Exits := [(.ret, ⟨[.b .bool, .r [.b .str]], 18, [(4, .v)], [⟨0, 0, .row false 9 [.b .str]⟩]⟩)]
noncomputable def ref08_One_s : TSum := TSum.of (baseC (fun _ => none) (fun _ => [])) (Go.Proofs.Tryz.f64.results.toList) 1 ref08_One_i ref08_One_o (fun v => ref08_One v.1 v.2)
noncomputable def ref08_One_z : Code := Option.getD Go.Proofs.Tryz.f64.body .skip
noncomputable def ref08_One_x (gl : Glob) : TCtx := { baseC gl (lookS []) with inl := lookI [], fuel := 0, loops := lookL [(2, ref08_One_l2)], cuts := lookL [] }
theorem ref08_One_v {gl : Glob} (hg : Gs gl) : ValidS Go.Proofs.Tryz.prog gl 64 ref08_One_s := by
  refine validS_of (c := ref08_One_x gl) ?_ hm_ Go.Proofs.Tryz.func64 (body := ref08_One_z) ?_ ?_ ?_ ?_ ?_ ?_ ?_ ?_ ?_
  · exact tok_of tyB_ok cmpB_ok .nil .nil
  · kernel_rfl
  · rfl
  · exact annOK_by (l := [∀ v, ref08_One_l2.body v = (roundT (ref08_One_x gl) ref08_One_l2.pat ref08_One_l2.exits (subAt [1, 0, 1, 0, 0] ref08_One_z) v).run]) (by kernel_rfl) (⟨fun (a0, a1, a2) => Eq.symm (by kernel_rfl), trivial⟩)
  · exact fun (a0, a1) => Eq.symm (by kernel_rfl)
  · kernel_rfl
  · kernel_rfl
  · exact exitX_of (.cons (fun v => by kernel_rfl) .nil)
  · rfl
  · rfl
noncomputable def tables_Tables_Sides_1_i : Pat := ⟨[.b (.int .u32), .b (.int .u32), .b .str, .b .str, .b .str, .b .bool, .r [.b .str]], 8, [(0, (.agg [.v, .v, .v, .v, .v, .v])), (1, (.ptr 0 0))], [⟨0, 0, .cells [(.own 1)]⟩, ⟨1, 0, .row false 9 [.b .str]⟩]⟩
noncomputable def tables_Tables_Sides_1_o : Exits := [(.ret, ⟨[.b .bool, .r [.b .str]], 8, [(3, .v)], [⟨0, 0, .cells [(.own 1)]⟩, ⟨1, 0, .row false 9 [.b .str]⟩]⟩)]
noncomputable def tables_Tables_Sides_1_s : TSum := TSum.of (baseC (fun _ => none) (fun _ => [])) (Go.Proofs.Tryz.f134.results.toList) 2 tables_Tables_Sides_1_i tables_Tables_Sides_1_o (fun v => tables_Tables_Sides_1 v.1 v.2.1 v.2.2.1 v.2.2.2.1 v.2.2.2.2.1 v.2.2.2.2.2.1 v.2.2.2.2.2.2)
noncomputable def tables_Tables_Sides_1_z : Code := Option.getD Go.Proofs.Tryz.f134.body .skip
noncomputable def tables_Tables_Sides_1_x (gl : Glob) : TCtx := { baseC gl (lookS [(133, [slices_Contains___s])]) with inl := lookI [], fuel := 0, loops := lookL [], cuts := lookL [] }
theorem tables_Tables_Sides_1_v {gl : Glob} (hg : Gs gl) : ValidS Go.Proofs.Tryz.prog gl 134 tables_Tables_Sides_1_s := by
  refine validS_of (c := tables_Tables_Sides_1_x gl) ?_ hm_ Go.Proofs.Tryz.func134 (body := tables_Tables_Sides_1_z) ?_ ?_ ?_ ?_ ?_ ?_ ?_ ?_ ?_
  · exact tok_of tyB_ok cmpB_ok (.cons (.cons (slices_Contains___v hg) .nil) (hb_ 133 Go.Proofs.Tryz.func133 (by kernel_rfl) (by kernel_rfl)) .nil) .nil
  · kernel_rfl
  · rfl
  · exact annOK_by (l := []) (by kernel_rfl) (trivial)
  · exact fun (a0, a1, a2, a3, a4, a5, a6) => Eq.symm (by kernel_rfl)
  · kernel_rfl
  · kernel_rfl
  · exact exitX_of (.cons (fun v => by kernel_rfl) .nil)
  · rfl
  · rfl
noncomputable def tables_Tables_ranged_i3_l5 : Loop1 := ⟨⟨[.b (.int .i64), .b (.int .i64), .r KzR, .r KzT, .r KzD, .r KzT, .r KzT, .r KzN, .r [.b .str], .r KzP], 31, [(1, (.fn 134 [] [(.ptr 1 0)])), (5, (.own 5000)), (14, (.own 2)), (15, .v), (16, .v)], [⟨1, 0, .cells [(.own 8)]⟩, ⟨2, 0, .row true 98 KzR⟩, ⟨0, 0, .cells [(.own 2), (.own 3), (.own 4), (.own 5), (.own 6), (.own 7)]⟩, ⟨3, 0, .row true 85 KzT⟩, ⟨4, 0, .row true 68 KzD⟩, ⟨5, 0, .row true 87 KzT⟩, ⟨6, 0, .row true 87 KzT⟩, ⟨7, 0, .row true 100 KzN⟩, ⟨8, 0, .row false 9 [.b .str]⟩, ⟨5000, 0, .row true 83 KzP⟩]⟩, [(.exit 0, ⟨[.r KzP, .r KzR, .r KzT, .r KzD, .r KzT, .r KzT, .r KzN, .r [.b .str]], 31, [(5, (.own 5000))], [⟨5000, 0, .row true 83 KzP⟩, ⟨1, 0, .cells [(.own 8)]⟩, ⟨2, 0, .row true 98 KzR⟩, ⟨0, 0, .cells [(.own 2), (.own 3), (.own 4), (.own 5), (.own 6), (.own 7)]⟩, ⟨3, 0, .row true 85 KzT⟩, ⟨4, 0, .row true 68 KzD⟩, ⟨5, 0, .row true 87 KzT⟩, ⟨6, 0, .row true 87 KzT⟩, ⟨7, 0, .row true 100 KzN⟩, ⟨8, 0, .row false 9 [.b .str]⟩]⟩)], tables_Tables_ranged_i3_b5⟩
noncomputable def tables_Tables_ranged_i3_i : Pat := ⟨[.r KzR, .r KzT, .r KzD, .r KzT, .r KzT, .r KzN, .r [.b .str]], 31, [(0, (.ptr 0 0)), (1, (.fn 134 [] [(.ptr 1 0)]))], [⟨0, 0, .cells [(.own 2), (.own 3), (.own 4), (.own 5), (.own 6), (.own 7)]⟩, ⟨1, 0, .cells [(.own 8)]⟩, ⟨2, 0, .row true 98 KzR⟩, ⟨3, 0, .row true 85 KzT⟩, ⟨4, 0, .row true 68 KzD⟩, ⟨5, 0, .row true 87 KzT⟩, ⟨6, 0, .row true 87 KzT⟩, ⟨7, 0, .row true 100 KzN⟩, ⟨8, 0, .row false 9 [.b .str]⟩]⟩
noncomputable def tables_Tables_ranged_i3_o : Exits := [(.ret, ⟨[.r KzP, .r KzR, .r KzT, .r KzD, .r KzT, .r KzT, .r KzN, .r [.b .str]], 31, [(4, (.own 1300))], [⟨1300, 0, .row true 83 KzP⟩, ⟨1, 0, .cells [(.own 8)]⟩, ⟨2, 0, .row true 98 KzR⟩, ⟨0, 0, .cells [(.own 2), (.own 3), (.own 4), (.own 5), (.own 6), (.own 7)]⟩, ⟨3, 0, .row true 85 KzT⟩, ⟨4, 0, .row true 68 KzD⟩, ⟨5, 0, .row true 87 KzT⟩, ⟨6, 0, .row true 87 KzT⟩, ⟨7, 0, .row true 100 KzN⟩, ⟨8, 0, .row false 9 [.b .str]⟩]⟩)]
noncomputable def tables_Tables_ranged_i3_s : TSum := TSum.of (baseC (fun _ => none) (fun _ => [])) (Go.Proofs.Tryz.f130.results.toList) 9 tables_Tables_ranged_i3_i tables_Tables_ranged_i3_o (fun v => tables_Tables_ranged_i3 v.1 v.2.1 v.2.2.1 v.2.2.2.1 v.2.2.2.2.1 v.2.2.2.2.2.1 v.2.2.2.2.2.2)
noncomputable def tables_Tables_ranged_i3_z : Code := Option.getD Go.Proofs.Tryz.f130.body .skip
noncomputable def tables_Tables_ranged_i3_x (gl : Glob) : TCtx := { baseC gl (lookS [(56, [tables_Merge_i2_s]), (134, [tables_Tables_Sides_1_s])]) with inl := lookI [], fuel := 0, loops := lookL [(5, tables_Tables_ranged_i3_l5)], cuts := lookL [] }
theorem tables_Tables_ranged_i3_v {gl : Glob} (hg : Gs gl) : ValidS Go.Proofs.Tryz.prog gl 130 tables_Tables_ranged_i3_s := by
  refine validS_of (c := tables_Tables_ranged_i3_x gl) ?_ hm_ Go.Proofs.Tryz.func130 (body := tables_Tables_ranged_i3_z) ?_ ?_ ?_ ?_ ?_ ?_ ?_ ?_ ?_
  · exact tok_of tyB_ok cmpB_ok (.cons (.cons (tables_Merge_i2_v hg) .nil) (hb_ 56 Go.Proofs.Tryz.func56 (by kernel_rfl) (by kernel_rfl)) (.cons (.cons (tables_Tables_Sides_1_v hg) .nil) (hb_ 134 Go.Proofs.Tryz.func134 (by kernel_rfl) (by kernel_rfl)) .nil)) .nil
  · kernel_rfl
  · rfl
  · exact annOK_by (l := [∀ v, tables_Tables_ranged_i3_l5.body v = (roundT (tables_Tables_ranged_i3_x gl) tables_Tables_ranged_i3_l5.pat tables_Tables_ranged_i3_l5.exits (subAt [1, 1, 1, 0, 1, 0, 0] tables_Tables_ranged_i3_z) v).run]) (by kernel_rfl) (⟨fun (a0, a1, a2, a3, a4, a5, a6, a7, a8, a9) => Eq.symm (by kernel_rfl), trivial⟩)
  · exact fun (a0, a1, a2, a3, a4, a5, a6) => Eq.symm (by kernel_rfl)
  · kernel_rfl
  · kernel_rfl
  · exact exitX_of (.cons (fun v => by kernel_rfl) .nil)
  · rfl
  · rfl
noncomputable def tables_Tables_Sides_i : Pat := ⟨[.r [.b .str], .r KzR, .r KzT, .r KzD, .r KzT, .r KzT, .r KzN], 8, [(0, (.ptr 0 0)), (1, (.own 1))], [⟨0, 0, .cells [(.own 2), (.own 3), (.own 4), (.own 5), (.own 6), (.own 7)]⟩, ⟨1, 0, .row false 9 [.b .str]⟩, ⟨2, 0, .row true 98 KzR⟩, ⟨3, 0, .row true 85 KzT⟩, ⟨4, 0, .row true 68 KzD⟩, ⟨5, 0, .row true 87 KzT⟩, ⟨6, 0, .row true 87 KzT⟩, ⟨7, 0, .row true 100 KzN⟩]⟩
noncomputable def tables_Tables_Sides_o : Exits := [(.ret, ⟨[.r KzP, .r [.b .str], .r KzR, .r KzT, .r KzD, .r KzT, .r KzT, .r KzN], 8, [(4, (.own 1070))], [⟨1070, 0, .row true 83 KzP⟩, ⟨0, 0, .cells [(.own 2), (.own 3), (.own 4), (.own 5), (.own 6), (.own 7)]⟩, ⟨1, 0, .row false 9 [.b .str]⟩, ⟨2, 0, .row true 98 KzR⟩, ⟨3, 0, .row true 85 KzT⟩, ⟨4, 0, .row true 68 KzD⟩, ⟨5, 0, .row true 87 KzT⟩, ⟨6, 0, .row true 87 KzT⟩, ⟨7, 0, .row true 100 KzN⟩]⟩)]
noncomputable def tables_Tables_Sides_s : TSum := TSum.of (baseC (fun _ => none) (fun _ => [])) (Go.Proofs.Tryz.f65.results.toList) 8 tables_Tables_Sides_i tables_Tables_Sides_o (fun v => tables_Tables_Sides v.1 v.2.1 v.2.2.1 v.2.2.2.1 v.2.2.2.2.1 v.2.2.2.2.2.1 v.2.2.2.2.2.2)
noncomputable def tables_Tables_Sides_z : Code := Option.getD Go.Proofs.Tryz.f65.body .skip
noncomputable def tables_Tables_Sides_x (gl : Glob) : TCtx := { baseC gl (lookS [(130, [tables_Tables_ranged_i3_s])]) with inl := lookI [], fuel := 0, loops := lookL [], cuts := lookL [] }
theorem tables_Tables_Sides_v {gl : Glob} (hg : Gs gl) : ValidS Go.Proofs.Tryz.prog gl 65 tables_Tables_Sides_s := by
  refine validS_of (c := tables_Tables_Sides_x gl) ?_ hm_ Go.Proofs.Tryz.func65 (body := tables_Tables_Sides_z) ?_ ?_ ?_ ?_ ?_ ?_ ?_ ?_ ?_
  · exact tok_of tyB_ok cmpB_ok (.cons (.cons (tables_Tables_ranged_i3_v hg) .nil) (hb_ 130 Go.Proofs.Tryz.func130 (by kernel_rfl) (by kernel_rfl)) .nil) .nil
  · kernel_rfl
  · rfl
  · exact annOK_by (l := []) (by kernel_rfl) (trivial)
  · exact fun (a0, a1, a2, a3, a4, a5, a6) => Eq.symm (by kernel_rfl)
  · kernel_rfl
  · kernel_rfl
  · exact exitX_of (.cons (fun v => by kernel_rfl) .nil)
  · rfl
  · rfl
noncomputable def tables_Tables_Joins_1_i : Pat := ⟨[.b (.int .u32), .b (.int .u32), .b .str, .b .str, .b .str, .b .bool, .b .str], 8, [(0, (.agg [.v, .v, .v, .v, .v, .v])), (1, (.ptr 0 0))], [⟨0, 0, .cells [.v]⟩]⟩
noncomputable def tables_Tables_Joins_1_o : Exits := [(.ret, ⟨[.b .bool, .b .str], 8, [(3, .v)], [⟨0, 0, .cells [.v]⟩]⟩)]
noncomputable def tables_Tables_Joins_1_s : TSum := TSum.of (baseC (fun _ => none) (fun _ => [])) (Go.Proofs.Tryz.f135.results.toList) 1 tables_Tables_Joins_1_i tables_Tables_Joins_1_o (fun v => tables_Tables_Joins_1 v.1 v.2.1 v.2.2.1 v.2.2.2.1 v.2.2.2.2.1 v.2.2.2.2.2.1 v.2.2.2.2.2.2)
noncomputable def tables_Tables_Joins_1_z : Code := Option.getD Go.Proofs.Tryz.f135.body .skip
noncomputable def tables_Tables_Joins_1_x (gl : Glob) : TCtx := { baseC gl (lookS [(136, [strings_Contains_s])]) with inl := lookI [], fuel := 0, loops := lookL [], cuts := lookL [] }
theorem tables_Tables_Joins_1_v {gl : Glob} (hg : Gs gl) : ValidS Go.Proofs.Tryz.prog gl 135 tables_Tables_Joins_1_s := by
  refine validS_of (c := tables_Tables_Joins_1_x gl) ?_ hm_ Go.Proofs.Tryz.func135 (body := tables_Tables_Joins_1_z) ?_ ?_ ?_ ?_ ?_ ?_ ?_ ?_ ?_
  · exact tok_of tyB_ok cmpB_ok (.cons (.cons (strings_Contains_v hg) .nil) (hb_ 136 Go.Proofs.Tryz.func136 (by kernel_rfl) (by kernel_rfl)) .nil) .nil
  · kernel_rfl
  · rfl
  · exact annOK_by (l := []) (by kernel_rfl) (trivial)
  · exact fun (a0, a1, a2, a3, a4, a5, a6) => Eq.symm (by kernel_rfl)
  · kernel_rfl
  · kernel_rfl
  · exact exitX_of (.cons (fun v => by kernel_rfl) .nil)
  · rfl
  · rfl
noncomputable def tables_Tables_ranged_i4_l5 : Loop1 := ⟨⟨[.b (.int .i64), .b (.int .i64), .b .str, .r KzR, .r KzT, .r KzD, .r KzT, .r KzT, .r KzN, .r KzP], 31, [(1, (.fn 135 [] [(.ptr 1 0)])), (5, (.own 5000)), (14, (.own 2)), (15, .v), (16, .v)], [⟨1, 0, .cells [.v]⟩, ⟨2, 0, .row true 98 KzR⟩, ⟨0, 0, .cells [(.own 2), (.own 3), (.own 4), (.own 5), (.own 6), (.own 7)]⟩, ⟨3, 0, .row true 85 KzT⟩, ⟨4, 0, .row true 68 KzD⟩, ⟨5, 0, .row true 87 KzT⟩, ⟨6, 0, .row true 87 KzT⟩, ⟨7, 0, .row true 100 KzN⟩, ⟨5000, 0, .row true 83 KzP⟩]⟩, [(.exit 0, ⟨[.r KzP, .b .str, .r KzR, .r KzT, .r KzD, .r KzT, .r KzT, .r KzN], 31, [(5, (.own 5000))], [⟨5000, 0, .row true 83 KzP⟩, ⟨1, 0, .cells [.v]⟩, ⟨2, 0, .row true 98 KzR⟩, ⟨0, 0, .cells [(.own 2), (.own 3), (.own 4), (.own 5), (.own 6), (.own 7)]⟩, ⟨3, 0, .row true 85 KzT⟩, ⟨4, 0, .row true 68 KzD⟩, ⟨5, 0, .row true 87 KzT⟩, ⟨6, 0, .row true 87 KzT⟩, ⟨7, 0, .row true 100 KzN⟩]⟩)], tables_Tables_ranged_i4_b5⟩
noncomputable def tables_Tables_ranged_i4_i : Pat := ⟨[.b .str, .r KzR, .r KzT, .r KzD, .r KzT, .r KzT, .r KzN], 31, [(0, (.ptr 0 0)), (1, (.fn 135 [] [(.ptr 1 0)]))], [⟨0, 0, .cells [(.own 2), (.own 3), (.own 4), (.own 5), (.own 6), (.own 7)]⟩, ⟨1, 0, .cells [.v]⟩, ⟨2, 0, .row true 98 KzR⟩, ⟨3, 0, .row true 85 KzT⟩, ⟨4, 0, .row true 68 KzD⟩, ⟨5, 0, .row true 87 KzT⟩, ⟨6, 0, .row true 87 KzT⟩, ⟨7, 0, .row true 100 KzN⟩]⟩
noncomputable def tables_Tables_ranged_i4_o : Exits := [(.ret, ⟨[.r KzP, .b .str, .r KzR, .r KzT, .r KzD, .r KzT, .r KzT, .r KzN], 31, [(4, (.own 1300))], [⟨1300, 0, .row true 83 KzP⟩, ⟨1, 0, .cells [.v]⟩, ⟨2, 0, .row true 98 KzR⟩, ⟨0, 0, .cells [(.own 2), (.own 3), (.own 4), (.own 5), (.own 6), (.own 7)]⟩, ⟨3, 0, .row true 85 KzT⟩, ⟨4, 0, .row true 68 KzD⟩, ⟨5, 0, .row true 87 KzT⟩, ⟨6, 0, .row true 87 KzT⟩, ⟨7, 0, .row true 100 KzN⟩]⟩)]
noncomputable def tables_Tables_ranged_i4_s : TSum := TSum.of (baseC (fun _ => none) (fun _ => [])) (Go.Proofs.Tryz.f130.results.toList) 8 tables_Tables_ranged_i4_i tables_Tables_ranged_i4_o (fun v => tables_Tables_ranged_i4 v.1 v.2.1 v.2.2.1 v.2.2.2.1 v.2.2.2.2.1 v.2.2.2.2.2.1 v.2.2.2.2.2.2)
noncomputable def tables_Tables_ranged_i4_z : Code := Option.getD Go.Proofs.Tryz.f130.body .skip
noncomputable def tables_Tables_ranged_i4_x (gl : Glob) : TCtx := { baseC gl (lookS [(56, [tables_Merge_i2_s]), (135, [tables_Tables_Joins_1_s])]) with inl := lookI [], fuel := 0, loops := lookL [(5, tables_Tables_ranged_i4_l5)], cuts := lookL [] }
theorem tables_Tables_ranged_i4_v {gl : Glob} (hg : Gs gl) : ValidS Go.Proofs.Tryz.prog gl 130 tables_Tables_ranged_i4_s := by
  refine validS_of (c := tables_Tables_ranged_i4_x gl) ?_ hm_ Go.Proofs.Tryz.func130 (body := tables_Tables_ranged_i4_z) ?_ ?_ ?_ ?_ ?_ ?_ ?_ ?_ ?_
  · exact tok_of tyB_ok cmpB_ok (.cons (.cons (tables_Merge_i2_v hg) .nil) (hb_ 56 Go.Proofs.Tryz.func56 (by kernel_rfl) (by kernel_rfl)) (.cons (.cons (tables_Tables_Joins_1_v hg) .nil) (hb_ 135 Go.Proofs.Tryz.func135 (by kernel_rfl) (by kernel_rfl)) .nil)) .nil
  · kernel_rfl
  · rfl
  · exact annOK_by (l := [∀ v, tables_Tables_ranged_i4_l5.body v = (roundT (tables_Tables_ranged_i4_x gl) tables_Tables_ranged_i4_l5.pat tables_Tables_ranged_i4_l5.exits (subAt [1, 1, 1, 0, 1, 0, 0] tables_Tables_ranged_i4_z) v).run]) (by kernel_rfl) (⟨fun (a0, a1, a2, a3, a4, a5, a6, a7, a8, a9) => Eq.symm (by kernel_rfl), trivial⟩)
  · exact fun (a0, a1, a2, a3, a4, a5, a6) => Eq.symm (by kernel_rfl)
  · kernel_rfl
  · kernel_rfl
  · exact exitX_of (.cons (fun v => by kernel_rfl) .nil)
  · rfl
  · rfl
noncomputable def tables_Tables_Joins_i : Pat := ⟨[.b .str, .r KzR, .r KzT, .r KzD, .r KzT, .r KzT, .r KzN], 8, [(0, (.ptr 0 0)), (1, .v)], [⟨0, 0, .cells [(.own 1), (.own 2), (.own 3), (.own 4), (.own 5), (.own 6)]⟩, ⟨1, 0, .row true 98 KzR⟩, ⟨2, 0, .row true 85 KzT⟩, ⟨3, 0, .row true 68 KzD⟩, ⟨4, 0, .row true 87 KzT⟩, ⟨5, 0, .row true 87 KzT⟩, ⟨6, 0, .row true 100 KzN⟩]⟩
noncomputable def tables_Tables_Joins_o : Exits := [(.ret, ⟨[.r KzP, .r KzR, .r KzT, .r KzD, .r KzT, .r KzT, .r KzN], 8, [(4, (.own 1070))], [⟨1070, 0, .row true 83 KzP⟩, ⟨0, 0, .cells [(.own 1), (.own 2), (.own 3), (.own 4), (.own 5), (.own 6)]⟩, ⟨1, 0, .row true 98 KzR⟩, ⟨2, 0, .row true 85 KzT⟩, ⟨3, 0, .row true 68 KzD⟩, ⟨4, 0, .row true 87 KzT⟩, ⟨5, 0, .row true 87 KzT⟩, ⟨6, 0, .row true 100 KzN⟩]⟩)]
noncomputable def tables_Tables_Joins_s : TSum := TSum.of (baseC (fun _ => none) (fun _ => [])) (Go.Proofs.Tryz.f66.results.toList) 7 tables_Tables_Joins_i tables_Tables_Joins_o (fun v => tables_Tables_Joins v.1 v.2.1 v.2.2.1 v.2.2.2.1 v.2.2.2.2.1 v.2.2.2.2.2.1 v.2.2.2.2.2.2)
noncomputable def tables_Tables_Joins_z : Code := Option.getD Go.Proofs.Tryz.f66.body .skip
noncomputable def tables_Tables_Joins_x (gl : Glob) : TCtx := { baseC gl (lookS [(130, [tables_Tables_ranged_i4_s])]) with inl := lookI [], fuel := 0, loops := lookL [], cuts := lookL [] }
theorem tables_Tables_Joins_v {gl : Glob} (hg : Gs gl) : ValidS Go.Proofs.Tryz.prog gl 66 tables_Tables_Joins_s := by
  refine validS_of (c := tables_Tables_Joins_x gl) ?_ hm_ Go.Proofs.Tryz.func66 (body := tables_Tables_Joins_z) ?_ ?_ ?_ ?_ ?_ ?_ ?_ ?_ ?_
  · exact tok_of tyB_ok cmpB_ok (.cons (.cons (tables_Tables_ranged_i4_v hg) .nil) (hb_ 130 Go.Proofs.Tryz.func130 (by kernel_rfl) (by kernel_rfl)) .nil) .nil
  · kernel_rfl
  · rfl
  · exact annOK_by (l := []) (by kernel_rfl) (trivial)
  · exact fun (a0, a1, a2, a3, a4, a5, a6) => Eq.symm (by kernel_rfl)
  · kernel_rfl
  · kernel_rfl
  · exact exitX_of (.cons (fun v => by kernel_rfl) .nil)
  · rfl
  · rfl
noncomputable def ref08_Letter_l2 : Loop1 := ⟨⟨[.b .str, .b .str, .b (.int .i64)], 19, [(0, .v), (1, .v), (5, .v)], []⟩, [(.ret, ⟨[.b .bool], 19, [(4, .v)], []⟩), (.exit 0, ⟨[], 19, [], []⟩)], ref08_Letter_b2⟩
noncomputable def ref08_Letter_i : Pat := ⟨[.b .str, .b .str], 19, [(0, .v), (1, .v)], []⟩
noncomputable def ref08_Letter_o : Exits := [(.ret, ⟨[.b .bool], 19, [(4, .v)], []⟩)]
noncomputable def ref08_Letter_s : TSum := TSum.of (baseC (fun _ => none) (fun _ => [])) (Go.Proofs.Tryz.f67.results.toList) 0 ref08_Letter_i ref08_Letter_o (fun v => ref08_Letter v.1 v.2)
noncomputable def ref08_Letter_z : Code := Option.getD Go.Proofs.Tryz.f67.body .skip
noncomputable def ref08_Letter_x (gl : Glob) : TCtx := { baseC gl (lookS []) with inl := lookI [], fuel := 0, loops := lookL [(2, ref08_Letter_l2)], cuts := lookL [] }
theorem ref08_Letter_v {gl : Glob} (hg : Gs gl) : ValidS Go.Proofs.Tryz.prog gl 67 ref08_Letter_s := by
  refine validS_of (c := ref08_Letter_x gl) ?_ hm_ Go.Proofs.Tryz.func67 (body := ref08_Letter_z) ?_ ?_ ?_ ?_ ?_ ?_ ?_ ?_ ?_
  · exact tok_of tyB_ok cmpB_ok .nil .nil
  · kernel_rfl
  · rfl
  · exact annOK_by (l := [∀ v, ref08_Letter_l2.body v = (roundT (ref08_Letter_x gl) ref08_Letter_l2.pat ref08_Letter_l2.exits (subAt [1, 0, 1, 0, 0] ref08_Letter_z) v).run]) (by kernel_rfl) (⟨fun (a0, a1, a2) => Eq.symm (by kernel_rfl), trivial⟩)
  · exact fun (a0, a1) => Eq.symm (by kernel_rfl)
  · kernel_rfl
  · kernel_rfl
  · exact exitX_of (.cons (fun v => by kernel_rfl) .nil)
  · rfl
  · rfl
noncomputable def tables_Tables_Set_l5 : Loop1 := ⟨⟨[.b .str, .b (.int .i64), .b (.int .i64), .r KzN, .r KzR, .r KzT, .r KzD, .r KzT, .r KzT, .r KzP], 32, [(1, .v), (5, (.own 5000)), (14, (.own 6)), (15, .v), (16, .v)], [⟨6, 0, .row true 100 KzN⟩, ⟨0, 0, .cells [(.own 1), (.own 2), (.own 3), (.own 4), (.own 5), (.own 6)]⟩, ⟨1, 0, .row true 98 KzR⟩, ⟨2, 0, .row true 85 KzT⟩, ⟨3, 0, .row true 68 KzD⟩, ⟨4, 0, .row true 87 KzT⟩, ⟨5, 0, .row true 87 KzT⟩, ⟨5000, 0, .row true 83 KzP⟩]⟩, [(.exit 0, ⟨[.r KzP, .r KzN, .r KzR, .r KzT, .r KzD, .r KzT, .r KzT], 32, [(5, (.own 5000))], [⟨5000, 0, .row true 83 KzP⟩, ⟨6, 0, .row true 100 KzN⟩, ⟨0, 0, .cells [(.own 1), (.own 2), (.own 3), (.own 4), (.own 5), (.own 6)]⟩, ⟨1, 0, .row true 98 KzR⟩, ⟨2, 0, .row true 85 KzT⟩, ⟨3, 0, .row true 68 KzD⟩, ⟨4, 0, .row true 87 KzT⟩, ⟨5, 0, .row true 87 KzT⟩]⟩)], tables_Tables_Set_b5⟩
noncomputable def tables_Tables_Set_i : Pat := ⟨[.b .str, .r KzR, .r KzT, .r KzD, .r KzT, .r KzT, .r KzN], 32, [(0, (.ptr 0 0)), (1, .v)], [⟨0, 0, .cells [(.own 1), (.own 2), (.own 3), (.own 4), (.own 5), (.own 6)]⟩, ⟨1, 0, .row true 98 KzR⟩, ⟨2, 0, .row true 85 KzT⟩, ⟨3, 0, .row true 68 KzD⟩, ⟨4, 0, .row true 87 KzT⟩, ⟨5, 0, .row true 87 KzT⟩, ⟨6, 0, .row true 100 KzN⟩]⟩
noncomputable def tables_Tables_Set_o : Exits := [(.ret, ⟨[.r KzP, .r KzN, .r KzR, .r KzT, .r KzD, .r KzT, .r KzT], 32, [(4, (.own 1310))], [⟨1310, 0, .row true 83 KzP⟩, ⟨6, 0, .row true 100 KzN⟩, ⟨0, 0, .cells [(.own 1), (.own 2), (.own 3), (.own 4), (.own 5), (.own 6)]⟩, ⟨1, 0, .row true 98 KzR⟩, ⟨2, 0, .row true 85 KzT⟩, ⟨3, 0, .row true 68 KzD⟩, ⟨4, 0, .row true 87 KzT⟩, ⟨5, 0, .row true 87 KzT⟩]⟩)]
noncomputable def tables_Tables_Set_s : TSum := TSum.of (baseC (fun _ => none) (fun _ => [])) (Go.Proofs.Tryz.f68.results.toList) 7 tables_Tables_Set_i tables_Tables_Set_o (fun v => tables_Tables_Set v.1 v.2.1 v.2.2.1 v.2.2.2.1 v.2.2.2.2.1 v.2.2.2.2.2.1 v.2.2.2.2.2.2)
noncomputable def tables_Tables_Set_z : Code := Option.getD Go.Proofs.Tryz.f68.body .skip
noncomputable def tables_Tables_Set_x (gl : Glob) : TCtx := { baseC gl (lookS [(56, [tables_Merge_i2_s])]) with inl := lookI [], fuel := 0, loops := lookL [(5, tables_Tables_Set_l5)], cuts := lookL [] }
theorem tables_Tables_Set_v {gl : Glob} (hg : Gs gl) : ValidS Go.Proofs.Tryz.prog gl 68 tables_Tables_Set_s := by
  refine validS_of (c := tables_Tables_Set_x gl) ?_ hm_ Go.Proofs.Tryz.func68 (body := tables_Tables_Set_z) ?_ ?_ ?_ ?_ ?_ ?_ ?_ ?_ ?_
  · exact tok_of tyB_ok cmpB_ok (.cons (.cons (tables_Merge_i2_v hg) .nil) (hb_ 56 Go.Proofs.Tryz.func56 (by kernel_rfl) (by kernel_rfl)) .nil) .nil
  · kernel_rfl
  · rfl
  · exact annOK_by (l := [∀ v, tables_Tables_Set_l5.body v = (roundT (tables_Tables_Set_x gl) tables_Tables_Set_l5.pat tables_Tables_Set_l5.exits (subAt [1, 1, 1, 0, 1, 0, 0] tables_Tables_Set_z) v).run]) (by kernel_rfl) (⟨fun (a0, a1, a2, a3, a4, a5, a6, a7, a8, a9) => Eq.symm (by kernel_rfl), trivial⟩)
  · exact fun (a0, a1, a2, a3, a4, a5, a6) => Eq.symm (by kernel_rfl)
  · kernel_rfl
  · kernel_rfl
  · exact exitX_of (.cons (fun v => by kernel_rfl) .nil)
  · rfl
  · rfl
noncomputable def ref08_Tables_Set_l2 : Loop1 := ⟨⟨[.b .str, .b (.int .u32), .b (.int .i64), .r KzR, .r KzT, .r KzD, .r KzT, .r KzT, .r KzN], 33, [(1, .v), (2, .v), (3, (.ptr 103 0)), (7, .v)], [⟨103, 0, .cells [(.own 0), (.own 1), (.own 2), (.own 3), (.own 4), (.own 5)]⟩, ⟨0, 0, .row true 98 KzR⟩, ⟨1, 0, .row true 85 KzT⟩, ⟨2, 0, .row true 68 KzD⟩, ⟨3, 0, .row true 87 KzT⟩, ⟨4, 0, .row true 87 KzT⟩, ⟨5, 0, .row true 100 KzN⟩]⟩, [(.ret, ⟨[.b .bool, .r KzR, .r KzT, .r KzD, .r KzT, .r KzT, .r KzN], 33, [(6, .v)], [⟨0, 0, .row true 98 KzR⟩, ⟨1, 0, .row true 85 KzT⟩, ⟨2, 0, .row true 68 KzD⟩, ⟨3, 0, .row true 87 KzT⟩, ⟨4, 0, .row true 87 KzT⟩, ⟨5, 0, .row true 100 KzN⟩]⟩), (.exit 0, ⟨[.r KzR, .r KzT, .r KzD, .r KzT, .r KzT, .r KzN], 33, [], [⟨0, 0, .row true 98 KzR⟩, ⟨1, 0, .row true 85 KzT⟩, ⟨2, 0, .row true 68 KzD⟩, ⟨3, 0, .row true 87 KzT⟩, ⟨4, 0, .row true 87 KzT⟩, ⟨5, 0, .row true 100 KzN⟩]⟩)], ref08_Tables_Set_b2⟩
noncomputable def ref08_Tables_Set_i : Pat := ⟨[.b .str, .b (.int .u32), .r KzR, .r KzT, .r KzD, .r KzT, .r KzT, .r KzN], 33, [(0, (.agg [(.own 0), (.own 1), (.own 2), (.own 3), (.own 4), (.own 5)])), (1, .v), (2, .v)], [⟨0, 0, .row true 98 KzR⟩, ⟨1, 0, .row true 85 KzT⟩, ⟨2, 0, .row true 68 KzD⟩, ⟨3, 0, .row true 87 KzT⟩, ⟨4, 0, .row true 87 KzT⟩, ⟨5, 0, .row true 100 KzN⟩]⟩
noncomputable def ref08_Tables_Set_o : Exits := [(.ret, ⟨[.b .bool, .r KzR, .r KzT, .r KzD, .r KzT, .r KzT, .r KzN], 33, [(6, .v)], [⟨0, 0, .row true 98 KzR⟩, ⟨1, 0, .row true 85 KzT⟩, ⟨2, 0, .row true 68 KzD⟩, ⟨3, 0, .row true 87 KzT⟩, ⟨4, 0, .row true 87 KzT⟩, ⟨5, 0, .row true 100 KzN⟩]⟩)]
noncomputable def ref08_Tables_Set_s : TSum := TSum.of (baseC (fun _ => none) (fun _ => [])) (Go.Proofs.Tryz.f69.results.toList) 6 ref08_Tables_Set_i ref08_Tables_Set_o (fun v => ref08_Tables_Set v.1 v.2.1 v.2.2.1 v.2.2.2.1 v.2.2.2.2.1 v.2.2.2.2.2.1 v.2.2.2.2.2.2.1 v.2.2.2.2.2.2.2)
noncomputable def ref08_Tables_Set_z : Code := Option.getD Go.Proofs.Tryz.f69.body .skip
noncomputable def ref08_Tables_Set_x (gl : Glob) : TCtx := { baseC gl (lookS [(72, [ref06_Has_s])]) with inl := lookI [], fuel := 0, loops := lookL [(2, ref08_Tables_Set_l2)], cuts := lookL [] }
theorem ref08_Tables_Set_v {gl : Glob} (hg : Gs gl) : ValidS Go.Proofs.Tryz.prog gl 69 ref08_Tables_Set_s := by
  refine validS_of (c := ref08_Tables_Set_x gl) ?_ hm_ Go.Proofs.Tryz.func69 (body := ref08_Tables_Set_z) ?_ ?_ ?_ ?_ ?_ ?_ ?_ ?_ ?_
  · exact tok_of tyB_ok cmpB_ok (.cons (.cons (ref06_Has_v hg) .nil) (hb_ 72 Go.Proofs.Tryz.func72 (by kernel_rfl) (by kernel_rfl)) .nil) .nil
  · kernel_rfl
  · rfl
  · exact annOK_by (l := [∀ v, ref08_Tables_Set_l2.body v = (roundT (ref08_Tables_Set_x gl) ref08_Tables_Set_l2.pat ref08_Tables_Set_l2.exits (subAt [1, 0, 1, 0, 0] ref08_Tables_Set_z) v).run]) (by kernel_rfl) (⟨fun (a0, a1, a2, a3, a4, a5, a6, a7, a8) => Eq.symm (by kernel_rfl), trivial⟩)
  · exact fun (a0, a1, a2, a3, a4, a5, a6, a7) => Eq.symm (by kernel_rfl)
  · kernel_rfl
  · kernel_rfl
  · exact exitX_of (.cons (fun v => by kernel_rfl) .nil)
  · rfl
  · rfl
noncomputable def tables_Tables_Alike_l5 : Loop1 := ⟨⟨[.b (.int .i64), .b (.int .i64), .r KzD, .r KzR, .r KzT, .r KzT, .r KzT, .r KzN, .r KzP], 31, [(3, (.own 5000)), (12, (.own 3)), (13, .v), (14, .v)], [⟨3, 0, .row true 68 KzD⟩, ⟨0, 0, .cells [(.own 1), (.own 2), (.own 3), (.own 4), (.own 5), (.own 6)]⟩, ⟨1, 0, .row true 98 KzR⟩, ⟨2, 0, .row true 85 KzT⟩, ⟨4, 0, .row true 87 KzT⟩, ⟨5, 0, .row true 87 KzT⟩, ⟨6, 0, .row true 100 KzN⟩, ⟨5000, 0, .row true 83 KzP⟩]⟩, [(.exit 0, ⟨[.r KzP, .r KzD, .r KzR, .r KzT, .r KzT, .r KzT, .r KzN], 31, [(3, (.own 5000))], [⟨5000, 0, .row true 83 KzP⟩, ⟨3, 0, .row true 68 KzD⟩, ⟨0, 0, .cells [(.own 1), (.own 2), (.own 3), (.own 4), (.own 5), (.own 6)]⟩, ⟨1, 0, .row true 98 KzR⟩, ⟨2, 0, .row true 85 KzT⟩, ⟨4, 0, .row true 87 KzT⟩, ⟨5, 0, .row true 87 KzT⟩, ⟨6, 0, .row true 100 KzN⟩]⟩)], tables_Tables_Alike_b5⟩
noncomputable def tables_Tables_Alike_i : Pat := ⟨[.r KzR, .r KzT, .r KzD, .r KzT, .r KzT, .r KzN], 31, [(0, (.ptr 0 0))], [⟨0, 0, .cells [(.own 1), (.own 2), (.own 3), (.own 4), (.own 5), (.own 6)]⟩, ⟨1, 0, .row true 98 KzR⟩, ⟨2, 0, .row true 85 KzT⟩, ⟨3, 0, .row true 68 KzD⟩, ⟨4, 0, .row true 87 KzT⟩, ⟨5, 0, .row true 87 KzT⟩, ⟨6, 0, .row true 100 KzN⟩]⟩
noncomputable def tables_Tables_Alike_o : Exits := [(.ret, ⟨[.r KzP, .r KzD, .r KzR, .r KzT, .r KzT, .r KzT, .r KzN], 31, [(2, (.own 1300))], [⟨1300, 0, .row true 83 KzP⟩, ⟨3, 0, .row true 68 KzD⟩, ⟨0, 0, .cells [(.own 1), (.own 2), (.own 3), (.own 4), (.own 5), (.own 6)]⟩, ⟨1, 0, .row true 98 KzR⟩, ⟨2, 0, .row true 85 KzT⟩, ⟨4, 0, .row true 87 KzT⟩, ⟨5, 0, .row true 87 KzT⟩, ⟨6, 0, .row true 100 KzN⟩]⟩)]
noncomputable def tables_Tables_Alike_s : TSum := TSum.of (baseC (fun _ => none) (fun _ => [])) (Go.Proofs.Tryz.f70.results.toList) 7 tables_Tables_Alike_i tables_Tables_Alike_o (fun v => tables_Tables_Alike v.1 v.2.1 v.2.2.1 v.2.2.2.1 v.2.2.2.2.1 v.2.2.2.2.2)
noncomputable def tables_Tables_Alike_z : Code := Option.getD Go.Proofs.Tryz.f70.body .skip
noncomputable def tables_Tables_Alike_x (gl : Glob) : TCtx := { baseC gl (lookS [(56, [tables_Merge_i2_s])]) with inl := lookI [], fuel := 0, loops := lookL [(5, tables_Tables_Alike_l5)], cuts := lookL [] }
theorem tables_Tables_Alike_v {gl : Glob} (hg : Gs gl) : ValidS Go.Proofs.Tryz.prog gl 70 tables_Tables_Alike_s := by
  refine validS_of (c := tables_Tables_Alike_x gl) ?_ hm_ Go.Proofs.Tryz.func70 (body := tables_Tables_Alike_z) ?_ ?_ ?_ ?_ ?_ ?_ ?_ ?_ ?_
  · exact tok_of tyB_ok cmpB_ok (.cons (.cons (tables_Merge_i2_v hg) .nil) (hb_ 56 Go.Proofs.Tryz.func56 (by kernel_rfl) (by kernel_rfl)) .nil) .nil
  · kernel_rfl
  · rfl
  · exact annOK_by (l := [∀ v, tables_Tables_Alike_l5.body v = (roundT (tables_Tables_Alike_x gl) tables_Tables_Alike_l5.pat tables_Tables_Alike_l5.exits (subAt [1, 1, 1, 0, 1, 0, 0] tables_Tables_Alike_z) v).run]) (by kernel_rfl) (⟨fun (a0, a1, a2, a3, a4, a5, a6, a7, a8) => Eq.symm (by kernel_rfl), trivial⟩)
  · exact fun (a0, a1, a2, a3, a4, a5) => Eq.symm (by kernel_rfl)
  · kernel_rfl
  · kernel_rfl
  · exact exitX_of (.cons (fun v => by kernel_rfl) .nil)
  · rfl
  · rfl
end Go.Tx
