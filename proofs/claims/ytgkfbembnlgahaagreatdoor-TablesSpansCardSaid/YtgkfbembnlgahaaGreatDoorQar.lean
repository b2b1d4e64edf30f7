/- Part 18 of the proof of the statement that the last part names; it asks for no condition of its own. Here: GenTB, GenRB, GenR2B, GenR3B, GenR4B, GenPB, GenL1A, GenL1B. -/
import Derived.Test.YtgkfbembnlgahaaGreatDoorQag
import Derived.Test.YtgkfbembnlgahaaGreatDoorQao
import Derived.Test.YtgkfbembnlgahaaGreatDoorQaq
import Derived.Test.YtgkfbembnlgahaaGreatDoorQae
set_option linter.all false
set_option linter.unusedVariables false
set_option maxRecDepth 100000
set_option maxHeartbeats 0
namespace Go.Tx
open Go Go.Sx
noncomputable def tables_New_i : Pat := ⟨[], 53, [], []⟩
noncomputable def tables_New_o : Exits := [(.ret, ⟨[.r KzR, .r KzT, .r KzD, .r KzT, .r KzT, .r KzN], 53, [(0, (.ptr 103 0))], [⟨103, 0, .cells [(.own 1060), (.own 1140), (.own 1220), (.own 1300), (.own 1380), (.own 1460)]⟩, ⟨1060, 0, .row true 98 KzR⟩, ⟨1140, 0, .row true 85 KzT⟩, ⟨1220, 0, .row true 68 KzD⟩, ⟨1300, 0, .row true 87 KzT⟩, ⟨1380, 0, .row true 87 KzT⟩, ⟨1460, 0, .row true 100 KzN⟩]⟩)]
noncomputable def tables_New_s : TSum := TSum.of (baseC (fun _ => none) (fun _ => [])) (Go.Proofs.Tryz.f16.results.toList) 0 tables_New_i tables_New_o (fun v => tables_New )
noncomputable def tables_New_z : Code := Option.getD Go.Proofs.Tryz.f16.body .skip
noncomputable def tables_New_x (gl : Glob) : TCtx := { baseC gl (lookS [(49, [chart_Ranges_s]), (44, [chart_Classes_s]), (53, [chart_Decomps_s]), (46, [chart_Runs_s]), (51, [chart_Sets_s])]) with inl := lookI [], fuel := 0, loops := lookL [], cuts := lookL [] }
theorem tables_New_v {gl : Glob} (hg : Gs gl) : ValidS Go.Proofs.Tryz.prog gl 16 tables_New_s := by
  refine validS_of (c := tables_New_x gl) ?_ hm_ Go.Proofs.Tryz.func16 (body := tables_New_z) ?_ ?_ ?_ ?_ ?_ ?_ ?_ ?_ ?_
  · exact tok_of tyB_ok cmpB_ok (.cons (.cons (chart_Ranges_v hg) .nil) (hb_ 49 Go.Proofs.Tryz.func49 (by kernel_rfl) (by kernel_rfl)) (.cons (.cons (chart_Classes_v hg) .nil) (hb_ 44 Go.Proofs.Tryz.func44 (by kernel_rfl) (by kernel_rfl)) (.cons (.cons (chart_Decomps_v hg) .nil) (hb_ 53 Go.Proofs.Tryz.func53 (by kernel_rfl) (by kernel_rfl)) (.cons (.cons (chart_Runs_v hg) .nil) (hb_ 46 Go.Proofs.Tryz.func46 (by kernel_rfl) (by kernel_rfl)) (.cons (.cons (chart_Sets_v hg) .nil) (hb_ 51 Go.Proofs.Tryz.func51 (by kernel_rfl) (by kernel_rfl)) .nil))))) .nil
  · kernel_rfl
  · rfl
  · exact annOK_by (l := []) (by kernel_rfl) (trivial)
  · exact fun v => Eq.symm (by kernel_rfl)
  · kernel_rfl
  · kernel_rfl
  · exact exitX_of (.cons (fun v => by kernel_rfl) .nil)
  · rfl
  · rfl
noncomputable def cmp_isNaN_uint32_i : Pat := ⟨[.b (.int .u32)], 6, [(0, .v)], []⟩
noncomputable def cmp_isNaN_uint32_o : Exits := [(.ret, ⟨[.b .bool], 6, [(2, .v)], []⟩)]
noncomputable def cmp_isNaN_uint32_s : TSum := TSum.of (baseC (fun _ => none) (fun _ => [])) (Go.Proofs.Tryz.f173.results.toList) 0 cmp_isNaN_uint32_i cmp_isNaN_uint32_o (fun v => cmp_isNaN_uint32 v)
noncomputable def cmp_isNaN_uint32_z : Code := Option.getD Go.Proofs.Tryz.f173.body .skip
noncomputable def cmp_isNaN_uint32_x (gl : Glob) : TCtx := { baseC gl (lookS []) with inl := lookI [], fuel := 0, loops := lookL [], cuts := lookL [] }
theorem cmp_isNaN_uint32_v {gl : Glob} (hg : Gs gl) : ValidS Go.Proofs.Tryz.prog gl 173 cmp_isNaN_uint32_s := by
  refine validS_of (c := cmp_isNaN_uint32_x gl) ?_ hm_ Go.Proofs.Tryz.func173 (body := cmp_isNaN_uint32_z) ?_ ?_ ?_ ?_ ?_ ?_ ?_ ?_ ?_
  · exact tok_of tyB_ok cmpB_ok .nil .nil
  · kernel_rfl
  · rfl
  · exact annOK_by (l := []) (by kernel_rfl) (trivial)
  · exact fun v => Eq.symm (by kernel_rfl)
  · kernel_rfl
  · kernel_rfl
  · exact exitX_of (.cons (fun v => by kernel_rfl) .nil)
  · rfl
  · rfl
noncomputable def cmp_Compare_uint32_i : Pat := ⟨[.b (.int .u32), .b (.int .u32)], 20, [(0, .v), (1, .v)], []⟩
noncomputable def cmp_Compare_uint32_o : Exits := [(.ret, ⟨[.b (.int .i64)], 20, [(4, .v)], []⟩)]
noncomputable def cmp_Compare_uint32_s : TSum := TSum.of (baseC (fun _ => none) (fun _ => [])) (Go.Proofs.Tryz.f128.results.toList) 0 cmp_Compare_uint32_i cmp_Compare_uint32_o (fun v => cmp_Compare_uint32 v.1 v.2)
noncomputable def cmp_Compare_uint32_z : Code := Option.getD Go.Proofs.Tryz.f128.body .skip
noncomputable def cmp_Compare_uint32_x (gl : Glob) : TCtx := { baseC gl (lookS [(173, [cmp_isNaN_uint32_s])]) with inl := lookI [], fuel := 0, loops := lookL [], cuts := lookL [] }
theorem cmp_Compare_uint32_v {gl : Glob} (hg : Gs gl) : ValidS Go.Proofs.Tryz.prog gl 128 cmp_Compare_uint32_s := by
  refine validS_of (c := cmp_Compare_uint32_x gl) ?_ hm_ Go.Proofs.Tryz.func128 (body := cmp_Compare_uint32_z) ?_ ?_ ?_ ?_ ?_ ?_ ?_ ?_ ?_
  · exact tok_of tyB_ok cmpB_ok (.cons (.cons (cmp_isNaN_uint32_v hg) .nil) (hb_ 173 Go.Proofs.Tryz.func173 (by kernel_rfl) (by kernel_rfl)) .nil) .nil
  · kernel_rfl
  · rfl
  · exact annOK_by (l := []) (by kernel_rfl) (trivial)
  · exact fun (a0, a1) => Eq.symm (by kernel_rfl)
  · kernel_rfl
  · kernel_rfl
  · exact exitX_of (.cons (fun v => by kernel_rfl) .nil)
  · rfl
  · rfl
noncomputable def tables_Tables_line_1_i : Pat := ⟨[.b (.int .u32), .b .bool, .b .bool, .b (.int .u32), .r [.b (.int .u32)]], 9, [(0, (.agg [.v, (.own 0), .v, .v])), (1, .v)], [⟨0, 0, .row false 22 [.b (.int .u32)]⟩]⟩
noncomputable def tables_Tables_line_1_o : Exits := [(.ret, ⟨[.b (.int .i64), .r [.b (.int .u32)]], 9, [(4, .v)], [⟨0, 0, .row false 22 [.b (.int .u32)]⟩]⟩)]
noncomputable def tables_Tables_line_1_s : TSum := TSum.of (baseC (fun _ => none) (fun _ => [])) (Go.Proofs.Tryz.f178.results.toList) 1 tables_Tables_line_1_i tables_Tables_line_1_o (fun v => tables_Tables_line_1 v.1 v.2.1 v.2.2.1 v.2.2.2.1 v.2.2.2.2)
noncomputable def tables_Tables_line_1_z : Code := Option.getD Go.Proofs.Tryz.f178.body .skip
noncomputable def tables_Tables_line_1_x (gl : Glob) : TCtx := { baseC gl (lookS [(128, [cmp_Compare_uint32_s])]) with inl := lookI [], fuel := 0, loops := lookL [], cuts := lookL [] }
theorem tables_Tables_line_1_v {gl : Glob} (hg : Gs gl) : ValidS Go.Proofs.Tryz.prog gl 178 tables_Tables_line_1_s := by
  refine validS_of (c := tables_Tables_line_1_x gl) ?_ hm_ Go.Proofs.Tryz.func178 (body := tables_Tables_line_1_z) ?_ ?_ ?_ ?_ ?_ ?_ ?_ ?_ ?_
  · exact tok_of tyB_ok cmpB_ok (.cons (.cons (cmp_Compare_uint32_v hg) .nil) (hb_ 128 Go.Proofs.Tryz.func128 (by kernel_rfl) (by kernel_rfl)) .nil) .nil
  · kernel_rfl
  · rfl
  · exact annOK_by (l := []) (by kernel_rfl) (trivial)
  · exact fun (a0, a1, a2, a3, a4) => Eq.symm (by kernel_rfl)
  · kernel_rfl
  · kernel_rfl
  · exact exitX_of (.cons (fun v => by kernel_rfl) .nil)
  · rfl
  · rfl
noncomputable def slices_BinarySearchFunc___l3 : Loop1 := ⟨⟨[.b (.int .u32), .b (.int .i64), .b (.int .i64), .b (.int .i64), .r KzD], 49, [(0, (.own 0)), (1, .v), (2, (.fn 178 [] [])), (8, .v), (9, .v), (10, .v)], [⟨0, 0, .row true 68 KzD⟩]⟩, [(.exit 0, ⟨[.b (.int .u32), .b (.int .i64), .b (.int .i64), .r KzD], 49, [(0, (.own 0)), (1, .v), (2, (.fn 178 [] [])), (8, .v), (9, .v)], [⟨0, 0, .row true 68 KzD⟩]⟩)], slices_BinarySearchFunc___b3⟩
noncomputable def slices_BinarySearchFunc___i : Pat := ⟨[.b (.int .u32), .r KzD], 49, [(0, (.own 0)), (1, .v), (2, (.fn 178 [] []))], [⟨0, 0, .row true 68 KzD⟩]⟩
noncomputable def slices_BinarySearchFunc___o : Exits := [(.ret, ⟨[.b (.int .i64), .b .bool, .r KzD], 49, [(6, .v), (7, .v)], [⟨0, 0, .row true 68 KzD⟩]⟩)]
noncomputable def slices_BinarySearchFunc___s : TSum := TSum.of (baseC (fun _ => none) (fun _ => [])) (Go.Proofs.Tryz.f177.results.toList) 1 slices_BinarySearchFunc___i slices_BinarySearchFunc___o (fun v => slices_BinarySearchFunc__ v.1 v.2)
noncomputable def slices_BinarySearchFunc___z : Code := Option.getD Go.Proofs.Tryz.f177.body .skip
noncomputable def slices_BinarySearchFunc___x (gl : Glob) : TCtx := { baseC gl (lookS [(178, [tables_Tables_line_1_s])]) with inl := lookI [], fuel := 0, loops := lookL [(3, slices_BinarySearchFunc___l3)], cuts := lookL [] }
theorem slices_BinarySearchFunc___v {gl : Glob} (hg : Gs gl) : ValidS Go.Proofs.Tryz.prog gl 177 slices_BinarySearchFunc___s := by
  refine validS_of (c := slices_BinarySearchFunc___x gl) ?_ hm_ Go.Proofs.Tryz.func177 (body := slices_BinarySearchFunc___z) ?_ ?_ ?_ ?_ ?_ ?_ ?_ ?_ ?_
  · exact tok_of tyB_ok cmpB_ok (.cons (.cons (tables_Tables_line_1_v hg) .nil) (hb_ 178 Go.Proofs.Tryz.func178 (by kernel_rfl) (by kernel_rfl)) .nil) .nil
  · kernel_rfl
  · rfl
  · exact annOK_by (l := [∀ v, slices_BinarySearchFunc___l3.body v = (roundT (slices_BinarySearchFunc___x gl) slices_BinarySearchFunc___l3.pat slices_BinarySearchFunc___l3.exits (subAt [1, 1, 1, 0, 0, 0] slices_BinarySearchFunc___z) v).run]) (by kernel_rfl) (⟨fun (a0, a1, a2, a3, a4) => Eq.symm (by kernel_rfl), trivial⟩)
  · exact fun (a0, a1) => Eq.symm (by kernel_rfl)
  · kernel_rfl
  · kernel_rfl
  · exact exitX_of (.cons (fun v => by kernel_rfl) .nil)
  · rfl
  · rfl
noncomputable def tables_Tables_line_i : Pat := ⟨[.b (.int .u32), .b .bool, .r KzR, .r KzT, .r KzD, .r KzT, .r KzT, .r KzN], 43, [(0, (.ptr 0 0)), (1, .v), (2, .v)], [⟨0, 0, .cells [(.own 1), (.own 2), (.own 3), (.own 4), (.own 5), (.own 6)]⟩, ⟨1, 0, .row true 98 KzR⟩, ⟨2, 0, .row true 85 KzT⟩, ⟨3, 0, .row true 68 KzD⟩, ⟨4, 0, .row true 87 KzT⟩, ⟨5, 0, .row true 87 KzT⟩, ⟨6, 0, .row true 100 KzN⟩]⟩
noncomputable def tables_Tables_line_o : Exits := [(.ret, ⟨[.b .bool, .b (.int .u32), .b .bool, .b .bool, .r KzR, .r KzT, .r KzD, .r KzT, .r KzT, .r KzN, .r [.b (.int .u32)]], 43, [(6, (.ptr 106 0)), (7, .v)], [⟨106, 0, .cells [.v, (.own 5000), .v, .v]⟩, ⟨0, 0, .cells [(.own 1), (.own 2), (.own 3), (.own 4), (.own 5), (.own 6)]⟩, ⟨1, 0, .row true 98 KzR⟩, ⟨2, 0, .row true 85 KzT⟩, ⟨3, 0, .row true 68 KzD⟩, ⟨4, 0, .row true 87 KzT⟩, ⟨5, 0, .row true 87 KzT⟩, ⟨6, 0, .row true 100 KzN⟩, ⟨5000, 0, .row false 22 [.b (.int .u32)]⟩]⟩)]
noncomputable def tables_Tables_line_s : TSum := TSum.of (baseC (fun _ => none) (fun _ => [])) (Go.Proofs.Tryz.f137.results.toList) 7 tables_Tables_line_i tables_Tables_line_o (fun v => tables_Tables_line v.1 v.2.1 v.2.2.1 v.2.2.2.1 v.2.2.2.2.1 v.2.2.2.2.2.1 v.2.2.2.2.2.2.1 v.2.2.2.2.2.2.2)
noncomputable def tables_Tables_line_z : Code := Option.getD Go.Proofs.Tryz.f137.body .skip
noncomputable def tables_Tables_line_x (gl : Glob) : TCtx := { baseC gl (lookS [(177, [slices_BinarySearchFunc___s])]) with inl := lookI [], fuel := 0, loops := lookL [], cuts := lookL [] }
theorem tables_Tables_line_v {gl : Glob} (hg : Gs gl) : ValidS Go.Proofs.Tryz.prog gl 137 tables_Tables_line_s := by
  refine validS_of (c := tables_Tables_line_x gl) ?_ hm_ Go.Proofs.Tryz.func137 (body := tables_Tables_line_z) ?_ ?_ ?_ ?_ ?_ ?_ ?_ ?_ ?_
  · exact tok_of tyB_ok cmpB_ok (.cons (.cons (slices_BinarySearchFunc___v hg) .nil) (hb_ 177 Go.Proofs.Tryz.func177 (by kernel_rfl) (by kernel_rfl)) .nil) .nil
  · kernel_rfl
  · rfl
  · exact annOK_by (l := []) (by kernel_rfl) (trivial)
  · exact fun (a0, a1, a2, a3, a4, a5, a6, a7) => Eq.symm (by kernel_rfl)
  · kernel_rfl
  · kernel_rfl
  · exact exitX_of (.cons (fun v => by kernel_rfl) .nil)
  · rfl
  · rfl
noncomputable def tables_Tables_full_l6 (tables_Tables_full_rec : Int → Bool → (List (Int × Int × ByteArray × ByteArray × ByteArray × Bool)) → (List (Int × Int × Int)) → (List (Int × List (Int) × Bool × Bool)) → (List (Int × Int × Int)) → (List (Int × Int × Int)) → (List (ByteArray × Int × Int)) → Option ((List (Int) × List (Int × Int × ByteArray × ByteArray × ByteArray × Bool) × List (Int × Int × Int) × List (Int × List (Int) × Bool × Bool) × List (Int × Int × Int) × List (Int × Int × Int) × List (ByteArray × Int × Int)))) : Loop1 := ⟨⟨[.b .bool, .b (.int .i64), .b (.int .i64), .r [.b (.int .u32)], .r KzR, .r KzT, .r KzD, .r KzT, .r KzT, .r KzN, .r [.b (.int .u32)]], 38, [(0, (.ptr 0 0)), (2, .v), (9, (.own 5000)), (24, (.own 1160)), (25, .v), (26, .v)], [⟨0, 0, .cells [(.own 1), (.own 2), (.own 3), (.own 4), (.own 5), (.own 6)]⟩, ⟨1160, 0, .row false 22 [.b (.int .u32)]⟩, ⟨1, 0, .row true 98 KzR⟩, ⟨2, 0, .row true 85 KzT⟩, ⟨3, 0, .row true 68 KzD⟩, ⟨4, 0, .row true 87 KzT⟩, ⟨5, 0, .row true 87 KzT⟩, ⟨6, 0, .row true 100 KzN⟩, ⟨5000, 0, .row true 22 [.b (.int .u32)]⟩]⟩, [(.exit 0, ⟨[.r [.b (.int .u32)], .r KzR, .r KzT, .r KzD, .r KzT, .r KzT, .r KzN], 38, [(9, (.own 5000))], [⟨5000, 0, .row true 22 [.b (.int .u32)]⟩, ⟨0, 0, .cells [(.own 1), (.own 2), (.own 3), (.own 4), (.own 5), (.own 6)]⟩, ⟨1, 0, .row true 98 KzR⟩, ⟨2, 0, .row true 85 KzT⟩, ⟨3, 0, .row true 68 KzD⟩, ⟨4, 0, .row true 87 KzT⟩, ⟨5, 0, .row true 87 KzT⟩, ⟨6, 0, .row true 100 KzN⟩]⟩)], tables_Tables_full_b6 tables_Tables_full_rec⟩
noncomputable def tables_Tables_full_i : Pat := ⟨[.b (.int .u32), .b .bool, .r KzR, .r KzT, .r KzD, .r KzT, .r KzT, .r KzN], 38, [(0, (.ptr 0 0)), (1, .v), (2, .v)], [⟨0, 0, .cells [(.own 1), (.own 2), (.own 3), (.own 4), (.own 5), (.own 6)]⟩, ⟨1, 0, .row true 98 KzR⟩, ⟨2, 0, .row true 85 KzT⟩, ⟨3, 0, .row true 68 KzD⟩, ⟨4, 0, .row true 87 KzT⟩, ⟨5, 0, .row true 87 KzT⟩, ⟨6, 0, .row true 100 KzN⟩]⟩
noncomputable def tables_Tables_full_o : Exits := [(.ret, ⟨[.r [.b (.int .u32)], .r KzR, .r KzT, .r KzD, .r KzT, .r KzT, .r KzN], 38, [(6, (.own 122))], [⟨122, 0, .row true 22 [.b (.int .u32)]⟩, ⟨0, 0, .cells [(.own 1), (.own 2), (.own 3), (.own 4), (.own 5), (.own 6)]⟩, ⟨1, 0, .row true 98 KzR⟩, ⟨2, 0, .row true 85 KzT⟩, ⟨3, 0, .row true 68 KzD⟩, ⟨4, 0, .row true 87 KzT⟩, ⟨5, 0, .row true 87 KzT⟩, ⟨6, 0, .row true 100 KzN⟩]⟩)]
noncomputable def tables_Tables_full_sr (tables_Tables_full_rec : Int → Bool → (List (Int × Int × ByteArray × ByteArray × ByteArray × Bool)) → (List (Int × Int × Int)) → (List (Int × List (Int) × Bool × Bool)) → (List (Int × Int × Int)) → (List (Int × Int × Int)) → (List (ByteArray × Int × Int)) → Option ((List (Int) × List (Int × Int × ByteArray × ByteArray × ByteArray × Bool) × List (Int × Int × Int) × List (Int × List (Int) × Bool × Bool) × List (Int × Int × Int) × List (Int × Int × Int) × List (ByteArray × Int × Int)))) : TSum := TSum.of (baseC (fun _ => none) (fun _ => [])) (Go.Proofs.Tryz.f71.results.toList) 7 tables_Tables_full_i tables_Tables_full_o (fun v => tables_Tables_full_rec v.1 v.2.1 v.2.2.1 v.2.2.2.1 v.2.2.2.2.1 v.2.2.2.2.2.1 v.2.2.2.2.2.2.1 v.2.2.2.2.2.2.2)
noncomputable def tables_Tables_full_z : Code := Option.getD Go.Proofs.Tryz.f71.body .skip
noncomputable def tables_Tables_full_x (gl : Glob) (tables_Tables_full_rec : Int → Bool → (List (Int × Int × ByteArray × ByteArray × ByteArray × Bool)) → (List (Int × Int × Int)) → (List (Int × List (Int) × Bool × Bool)) → (List (Int × Int × Int)) → (List (Int × Int × Int)) → (List (ByteArray × Int × Int)) → Option ((List (Int) × List (Int × Int × ByteArray × ByteArray × ByteArray × Bool) × List (Int × Int × Int) × List (Int × List (Int) × Bool × Bool) × List (Int × Int × Int) × List (Int × Int × Int) × List (ByteArray × Int × Int)))) : TCtx := { baseC gl (lookS [(71, [(tables_Tables_full_sr tables_Tables_full_rec)]), (137, [tables_Tables_line_s])]) with inl := lookI [], fuel := 0, loops := lookL [(6, (tables_Tables_full_l6 tables_Tables_full_rec))], cuts := lookL [] }
theorem tables_Tables_full_vr {gl : Glob} (hg : Gs gl) (tables_Tables_full_rec : Int → Bool → (List (Int × Int × ByteArray × ByteArray × ByteArray × Bool)) → (List (Int × Int × Int)) → (List (Int × List (Int) × Bool × Bool)) → (List (Int × Int × Int)) → (List (Int × Int × Int)) → (List (ByteArray × Int × Int)) → Option ((List (Int) × List (Int × Int × ByteArray × ByteArray × ByteArray × Bool) × List (Int × Int × Int) × List (Int × List (Int) × Bool × Bool) × List (Int × Int × Int) × List (Int × Int × Int) × List (ByteArray × Int × Int)))) (ih : ValidS Go.Proofs.Tryz.prog gl 71 (tables_Tables_full_sr tables_Tables_full_rec)) : ValidS Go.Proofs.Tryz.prog gl 71 (tables_Tables_full_sr (tables_Tables_full_r tables_Tables_full_rec)) := by
  refine validS_of (c := tables_Tables_full_x gl tables_Tables_full_rec) ?_ hm_ Go.Proofs.Tryz.func71 (body := tables_Tables_full_z) ?_ ?_ ?_ ?_ ?_ ?_ ?_ ?_ ?_
  · exact tok_of tyB_ok cmpB_ok (.cons (.cons ih .nil) (hb_ 71 Go.Proofs.Tryz.func71 (by kernel_rfl) (by kernel_rfl)) (.cons (.cons (tables_Tables_line_v hg) .nil) (hb_ 137 Go.Proofs.Tryz.func137 (by kernel_rfl) (by kernel_rfl)) .nil)) .nil
  · kernel_rfl
  · rfl
  · exact annOK_by (l := [∀ v, (tables_Tables_full_l6 tables_Tables_full_rec).body v = (roundT (tables_Tables_full_x gl tables_Tables_full_rec) (tables_Tables_full_l6 tables_Tables_full_rec).pat (tables_Tables_full_l6 tables_Tables_full_rec).exits (subAt [1, 1, 1, 1, 0, 1, 0, 0] tables_Tables_full_z) v).run]) (by kernel_rfl) (⟨fun (a0, a1, a2, a3, a4, a5, a6, a7, a8, a9, a10) => Eq.symm (by kernel_rfl), trivial⟩)
  · exact fun (a0, a1, a2, a3, a4, a5, a6, a7) => Eq.symm (by kernel_rfl)
  · kernel_rfl
  · kernel_rfl
  · exact exitX_of (.cons (fun v => by kernel_rfl) .nil)
  · rfl
  · rfl
theorem tables_Tables_full_vn {gl : Glob} (hg : Gs gl) : ∀ n, ValidS Go.Proofs.Tryz.prog gl 71 (tables_Tables_full_sr (tables_Tables_full_n n))
  | 0 => validS_none (fun v => rfl)
  | n + 1 => tables_Tables_full_vr hg _ (tables_Tables_full_vn hg n)
noncomputable def tables_Tables_full_s : TSum := tables_Tables_full_sr tables_Tables_full
theorem tables_Tables_full_v {gl : Glob} (hg : Gs gl) : ValidS Go.Proofs.Tryz.prog gl 71 tables_Tables_full_s := tables_Tables_full_vn hg 64
noncomputable def tables_Tables_Full_l5 : Loop1 := ⟨⟨[.b .bool, .b (.int .i64), .b (.int .i64), .r KzD, .r KzR, .r KzT, .r KzT, .r KzT, .r KzN, .r [.b (.int .u32)], .r [.s 22 [.int .u32]]], 50, [(0, (.ptr 0 0)), (1, .v), (4, (.ptr 104 0)), (5, (.ptr 105 0)), (15, (.own 3)), (16, .v), (17, .v)], [⟨0, 0, .cells [(.own 1), (.own 2), (.own 3), (.own 4), (.own 5), (.own 6)]⟩, ⟨104, 0, .cells [(.lit (.slice none 0 0)), (.lit (.slice none 0 0))]⟩, ⟨105, 0, .cells [(.own 5000), (.own 5001)]⟩, ⟨3, 0, .row true 68 KzD⟩, ⟨1, 0, .row true 98 KzR⟩, ⟨2, 0, .row true 85 KzT⟩, ⟨4, 0, .row true 87 KzT⟩, ⟨5, 0, .row true 87 KzT⟩, ⟨6, 0, .row true 100 KzN⟩, ⟨5000, 0, .row true 22 [.b (.int .u32)]⟩, ⟨5001, 0, .row true 33 [.s 22 [.int .u32]]⟩]⟩, [(.exit 0, ⟨[.r KzD, .r KzR, .r KzT, .r KzT, .r KzT, .r KzN, .r [.b (.int .u32)], .r [.s 22 [.int .u32]]], 50, [(4, (.ptr 104 0)), (5, (.ptr 105 0))], [⟨104, 0, .cells [(.lit (.slice none 0 0)), (.lit (.slice none 0 0))]⟩, ⟨105, 0, .cells [(.own 5000), (.own 5001)]⟩, ⟨0, 0, .cells [(.own 1), (.own 2), (.own 3), (.own 4), (.own 5), (.own 6)]⟩, ⟨3, 0, .row true 68 KzD⟩, ⟨1, 0, .row true 98 KzR⟩, ⟨2, 0, .row true 85 KzT⟩, ⟨4, 0, .row true 87 KzT⟩, ⟨5, 0, .row true 87 KzT⟩, ⟨6, 0, .row true 100 KzN⟩, ⟨5000, 0, .row true 22 [.b (.int .u32)]⟩, ⟨5001, 0, .row true 33 [.s 22 [.int .u32]]⟩]⟩)], tables_Tables_Full_b5⟩
noncomputable def tables_Tables_Full_i : Pat := ⟨[.b .bool, .r KzR, .r KzT, .r KzD, .r KzT, .r KzT, .r KzN], 50, [(0, (.ptr 0 0)), (1, .v)], [⟨0, 0, .cells [(.own 1), (.own 2), (.own 3), (.own 4), (.own 5), (.own 6)]⟩, ⟨1, 0, .row true 98 KzR⟩, ⟨2, 0, .row true 85 KzT⟩, ⟨3, 0, .row true 68 KzD⟩, ⟨4, 0, .row true 87 KzT⟩, ⟨5, 0, .row true 87 KzT⟩, ⟨6, 0, .row true 100 KzN⟩]⟩
noncomputable def tables_Tables_Full_o : Exits := [(.ret, ⟨[.r KzD, .r KzR, .r KzT, .r KzT, .r KzT, .r KzN, .r [.b (.int .u32)], .r [.s 22 [.int .u32]]], 50, [(4, (.ptr 104 0))], [⟨104, 0, .cells [(.own 5000), (.own 5001)]⟩, ⟨0, 0, .cells [(.own 1), (.own 2), (.own 3), (.own 4), (.own 5), (.own 6)]⟩, ⟨3, 0, .row true 68 KzD⟩, ⟨1, 0, .row true 98 KzR⟩, ⟨2, 0, .row true 85 KzT⟩, ⟨4, 0, .row true 87 KzT⟩, ⟨5, 0, .row true 87 KzT⟩, ⟨6, 0, .row true 100 KzN⟩, ⟨5000, 0, .row true 22 [.b (.int .u32)]⟩, ⟨5001, 0, .row true 33 [.s 22 [.int .u32]]⟩]⟩)]
noncomputable def tables_Tables_Full_s : TSum := TSum.of (baseC (fun _ => none) (fun _ => [])) (Go.Proofs.Tryz.f17.results.toList) 7 tables_Tables_Full_i tables_Tables_Full_o (fun v => tables_Tables_Full v.1 v.2.1 v.2.2.1 v.2.2.2.1 v.2.2.2.2.1 v.2.2.2.2.2.1 v.2.2.2.2.2.2)
noncomputable def tables_Tables_Full_z : Code := Option.getD Go.Proofs.Tryz.f17.body .skip
noncomputable def tables_Tables_Full_x (gl : Glob) : TCtx := { baseC gl (lookS [(71, [tables_Tables_full_s])]) with inl := lookI [], fuel := 0, loops := lookL [(5, tables_Tables_Full_l5)], cuts := lookL [] }
theorem tables_Tables_Full_v {gl : Glob} (hg : Gs gl) : ValidS Go.Proofs.Tryz.prog gl 17 tables_Tables_Full_s := by
  refine validS_of (c := tables_Tables_Full_x gl) ?_ hm_ Go.Proofs.Tryz.func17 (body := tables_Tables_Full_z) ?_ ?_ ?_ ?_ ?_ ?_ ?_ ?_ ?_
  · exact tok_of tyB_ok cmpB_ok (.cons (.cons (tables_Tables_full_v hg) .nil) (hb_ 71 Go.Proofs.Tryz.func71 (by kernel_rfl) (by kernel_rfl)) .nil) .nil
  · kernel_rfl
  · rfl
  · exact annOK_by (l := [∀ v, tables_Tables_Full_l5.body v = (roundT (tables_Tables_Full_x gl) tables_Tables_Full_l5.pat tables_Tables_Full_l5.exits (subAt [1, 1, 1, 0, 1, 0, 0] tables_Tables_Full_z) v).run]) (by kernel_rfl) (⟨fun (a0, a1, a2, a3, a4, a5, a6, a7, a8, a9, a10) => Eq.symm (by kernel_rfl), trivial⟩)
  · exact fun (a0, a1, a2, a3, a4, a5, a6) => Eq.symm (by kernel_rfl)
  · kernel_rfl
  · kernel_rfl
  · exact exitX_of (.cons (fun v => by kernel_rfl) .nil)
  · rfl
  · rfl
noncomputable def law08_awake_l3 : Loop1 := ⟨⟨[.b (.int .i64), .b (.int .i64), .r [.b (.int .u32)], .r [.s 22 [.int .u32]]], 54, [(1, (.ptr 101 0)), (7, (.own 1050)), (8, .v), (9, .v)], [⟨101, 0, .cells [(.own 1050), (.own 1051)]⟩, ⟨1050, 0, .row true 22 [.b (.int .u32)]⟩, ⟨1051, 0, .row true 33 [.s 22 [.int .u32]]⟩]⟩, [(.ret, ⟨[.b .bool], 54, [(0, .v)], []⟩), (.exit 0, ⟨[], 54, [], []⟩)], law08_awake_b3⟩
noncomputable def law08_awake_i : Pat := ⟨[], 54, [], []⟩
noncomputable def law08_awake_o : Exits := [(.ret, ⟨[.b .bool], 54, [(0, .v)], []⟩)]
noncomputable def law08_awake_s : TSum := TSum.of (baseC (fun _ => none) (fun _ => [])) (Go.Proofs.Tryz.f14.results.toList) 0 law08_awake_i law08_awake_o (fun v => law08_awake )
noncomputable def law08_awake_z : Code := Option.getD Go.Proofs.Tryz.f14.body .skip
noncomputable def law08_awake_x (gl : Glob) : TCtx := { baseC gl (lookS [(16, [tables_New_s]), (17, [tables_Tables_Full_s])]) with inl := lookI [], fuel := 0, loops := lookL [(3, law08_awake_l3)], cuts := lookL [] }
theorem law08_awake_v {gl : Glob} (hg : Gs gl) : ValidS Go.Proofs.Tryz.prog gl 14 law08_awake_s := by
  refine validS_of (c := law08_awake_x gl) ?_ hm_ Go.Proofs.Tryz.func14 (body := law08_awake_z) ?_ ?_ ?_ ?_ ?_ ?_ ?_ ?_ ?_
  · exact tok_of tyB_ok cmpB_ok (.cons (.cons (tables_New_v hg) .nil) (hb_ 16 Go.Proofs.Tryz.func16 (by kernel_rfl) (by kernel_rfl)) (.cons (.cons (tables_Tables_Full_v hg) .nil) (hb_ 17 Go.Proofs.Tryz.func17 (by kernel_rfl) (by kernel_rfl)) .nil)) .nil
  · kernel_rfl
  · rfl
  · exact annOK_by (l := [∀ v, law08_awake_l3.body v = (roundT (law08_awake_x gl) law08_awake_l3.pat law08_awake_l3.exits (subAt [1, 1, 0, 1, 0, 0] law08_awake_z) v).run]) (by kernel_rfl) (⟨fun (a0, a1, a2, a3) => Eq.symm (by kernel_rfl), trivial⟩)
  · exact fun v => Eq.symm (by kernel_rfl)
  · kernel_rfl
  · kernel_rfl
  · exact exitX_of (.cons (fun v => by kernel_rfl) .nil)
  · rfl
  · rfl
end Go.Tx

namespace Go.Tx
open Go Go.Sx
noncomputable def ref07_Split_l3 : Loop1 := ⟨⟨[.b .str, .b (.int .u8), .b (.int .i64), .r [.b .str]], 40, [(0, .v), (1, .v), (5, (.own 108)), (6, .v)], [⟨108, 0, .row true 9 [.b .str]⟩]⟩, [(.exit 0, ⟨[.r [.b .str]], 40, [(5, (.own 108))], [⟨108, 0, .row true 9 [.b .str]⟩]⟩)], ref07_Split_b3⟩
noncomputable def ref07_Split_i : Pat := ⟨[.b .str, .b (.int .u8)], 40, [(0, .v), (1, .v)], []⟩
noncomputable def ref07_Split_o : Exits := [(.ret, ⟨[.r [.b .str]], 40, [(4, (.own 108))], [⟨108, 0, .row true 9 [.b .str]⟩]⟩)]
noncomputable def ref07_Split_s : TSum := TSum.of (baseC (fun _ => none) (fun _ => [])) (Go.Proofs.Tryz.f165.results.toList) 0 ref07_Split_i ref07_Split_o (fun v => ref07_Split v.1 v.2)
noncomputable def ref07_Split_z : Code := Option.getD Go.Proofs.Tryz.f165.body .skip
noncomputable def ref07_Split_x (gl : Glob) : TCtx := { baseC gl (lookS []) with inl := lookI [], fuel := 0, loops := lookL [(3, ref07_Split_l3)], cuts := lookL [] }
theorem ref07_Split_v {gl : Glob} (hg : Gs gl) : ValidS Go.Proofs.Tryz.prog gl 165 ref07_Split_s := by
  refine validS_of (c := ref07_Split_x gl) ?_ hm_ Go.Proofs.Tryz.func165 (body := ref07_Split_z) ?_ ?_ ?_ ?_ ?_ ?_ ?_ ?_ ?_
  · exact tok_of tyB_ok cmpB_ok .nil .nil
  · kernel_rfl
  · rfl
  · exact annOK_by (l := [∀ v, ref07_Split_l3.body v = (roundT (ref07_Split_x gl) ref07_Split_l3.pat ref07_Split_l3.exits (subAt [1, 1, 0, 1, 0, 0] ref07_Split_z) v).run]) (by kernel_rfl) (⟨fun (a0, a1, a2, a3) => Eq.symm (by kernel_rfl), trivial⟩)
  · exact fun (a0, a1) => Eq.symm (by kernel_rfl)
  · kernel_rfl
  · kernel_rfl
  · exact exitX_of (.cons (fun v => by kernel_rfl) .nil)
  · rfl
  · rfl
noncomputable def ref07_Lines_l6 : Loop1 := ⟨⟨[.b (.int .i64), .r [.b .str], .r [.s 9 [.str]]], 26, [(3, (.own 5000)), (4, (.own 1100)), (5, .v)], [⟨1100, 0, .row true 9 [.b .str]⟩, ⟨5000, 0, .row true 113 [.s 9 [.str]]⟩]⟩, [(.exit 0, ⟨[.r [.s 9 [.str]]], 26, [(3, (.own 5000))], [⟨5000, 0, .row true 113 [.s 9 [.str]]⟩]⟩)], ref07_Lines_b6⟩
noncomputable def ref07_Lines_i : Pat := ⟨[.b .str], 26, [(0, .v)], []⟩
noncomputable def ref07_Lines_o : Exits := [(.ret, ⟨[.r [.s 9 [.str]]], 26, [(2, (.own 5000))], [⟨5000, 0, .row true 113 [.s 9 [.str]]⟩]⟩)]
noncomputable def ref07_Lines_s : TSum := TSum.of (baseC (fun _ => none) (fun _ => [])) (Go.Proofs.Tryz.f102.results.toList) 0 ref07_Lines_i ref07_Lines_o (fun v => ref07_Lines v)
noncomputable def ref07_Lines_z : Code := Option.getD Go.Proofs.Tryz.f102.body .skip
noncomputable def ref07_Lines_x (gl : Glob) : TCtx := { baseC gl (lookS [(165, [ref07_Split_s])]) with inl := lookI [], fuel := 0, loops := lookL [(6, ref07_Lines_l6)], cuts := lookL [] }
theorem ref07_Lines_v {gl : Glob} (hg : Gs gl) : ValidS Go.Proofs.Tryz.prog gl 102 ref07_Lines_s := by
  refine validS_of (c := ref07_Lines_x gl) ?_ hm_ Go.Proofs.Tryz.func102 (body := ref07_Lines_z) ?_ ?_ ?_ ?_ ?_ ?_ ?_ ?_ ?_
  · exact tok_of tyB_ok cmpB_ok (.cons (.cons (ref07_Split_v hg) .nil) (hb_ 165 Go.Proofs.Tryz.func165 (by kernel_rfl) (by kernel_rfl)) .nil) .nil
  · kernel_rfl
  · rfl
  · exact annOK_by (l := [∀ v, ref07_Lines_l6.body v = (roundT (ref07_Lines_x gl) ref07_Lines_l6.pat ref07_Lines_l6.exits (subAt [1, 1, 1, 1, 0, 1, 0, 0] ref07_Lines_z) v).run]) (by kernel_rfl) (⟨fun (a0, a1, a2) => Eq.symm (by kernel_rfl), trivial⟩)
  · exact fun v => Eq.symm (by kernel_rfl)
  · kernel_rfl
  · kernel_rfl
  · exact exitX_of (.cons (fun v => by kernel_rfl) .nil)
  · rfl
  · rfl
noncomputable def ref07_digit_i : Pat := ⟨[.b (.int .u8)], 22, [(0, .v)], []⟩
noncomputable def ref07_digit_o : Exits := [(.ret, ⟨[.b (.int .i64)], 22, [(2, .v)], []⟩)]
noncomputable def ref07_digit_s : TSum := TSum.of (baseC (fun _ => none) (fun _ => [])) (Go.Proofs.Tryz.f168.results.toList) 0 ref07_digit_i ref07_digit_o (fun v => ref07_digit v)
noncomputable def ref07_digit_z : Code := Option.getD Go.Proofs.Tryz.f168.body .skip
noncomputable def ref07_digit_x (gl : Glob) : TCtx := { baseC gl (lookS []) with inl := lookI [], fuel := 0, loops := lookL [], cuts := lookL [] }
theorem ref07_digit_v {gl : Glob} (hg : Gs gl) : ValidS Go.Proofs.Tryz.prog gl 168 ref07_digit_s := by
  refine validS_of (c := ref07_digit_x gl) ?_ hm_ Go.Proofs.Tryz.func168 (body := ref07_digit_z) ?_ ?_ ?_ ?_ ?_ ?_ ?_ ?_ ?_
  · exact tok_of tyB_ok cmpB_ok .nil .nil
  · kernel_rfl
  · rfl
  · exact annOK_by (l := []) (by kernel_rfl) (trivial)
  · exact fun v => Eq.symm (by kernel_rfl)
  · kernel_rfl
  · kernel_rfl
  · exact exitX_of (.cons (fun v => by kernel_rfl) .nil)
  · rfl
  · rfl
noncomputable def ref07_Point_l5 : Loop1 := ⟨⟨[.b .str, .b (.int .i64), .b (.int .i64)], 43, [(0, .v), (3, .v), (4, .v)], []⟩, [(.exit 0, ⟨[.b (.int .i64)], 43, [(3, .v)], []⟩), (.ret, ⟨[.b (.int .i64)], 43, [(2, .v)], []⟩)], ref07_Point_b5⟩
noncomputable def ref07_Point_i : Pat := ⟨[.b .str], 43, [(0, .v)], []⟩
noncomputable def ref07_Point_o : Exits := [(.ret, ⟨[.b (.int .i64)], 43, [(2, .v)], []⟩)]
noncomputable def ref07_Point_s : TSum := TSum.of (baseC (fun _ => none) (fun _ => [])) (Go.Proofs.Tryz.f110.results.toList) 0 ref07_Point_i ref07_Point_o (fun v => ref07_Point v)
noncomputable def ref07_Point_z : Code := Option.getD Go.Proofs.Tryz.f110.body .skip
noncomputable def ref07_Point_x (gl : Glob) : TCtx := { baseC gl (lookS [(168, [ref07_digit_s])]) with inl := lookI [], fuel := 0, loops := lookL [(5, ref07_Point_l5)], cuts := lookL [] }
theorem ref07_Point_v {gl : Glob} (hg : Gs gl) : ValidS Go.Proofs.Tryz.prog gl 110 ref07_Point_s := by
  refine validS_of (c := ref07_Point_x gl) ?_ hm_ Go.Proofs.Tryz.func110 (body := ref07_Point_z) ?_ ?_ ?_ ?_ ?_ ?_ ?_ ?_ ?_
  · exact tok_of tyB_ok cmpB_ok (.cons (.cons (ref07_digit_v hg) .nil) (hb_ 168 Go.Proofs.Tryz.func168 (by kernel_rfl) (by kernel_rfl)) .nil) .nil
  · kernel_rfl
  · rfl
  · exact annOK_by (l := [∀ v, ref07_Point_l5.body v = (roundT (ref07_Point_x gl) ref07_Point_l5.pat ref07_Point_l5.exits (subAt [1, 1, 1, 0, 1, 0, 0] ref07_Point_z) v).run]) (by kernel_rfl) (⟨fun (a0, a1, a2) => Eq.symm (by kernel_rfl), trivial⟩)
  · exact fun v => Eq.symm (by kernel_rfl)
  · kernel_rfl
  · kernel_rfl
  · exact exitX_of (.cons (fun v => by kernel_rfl) .nil)
  · rfl
  · rfl
noncomputable def ref07_span_i : Pat := ⟨[.b .str, .b .str], 29, [(0, .v), (1, .v)], []⟩
noncomputable def ref07_span_o : Exits := [(.ret, ⟨[.b .bool, .b (.int .u32), .b (.int .u32)], 29, [(4, (.ptr 104 0)), (5, .v)], [⟨104, 0, .cells [.v, .v]⟩]⟩)]
noncomputable def ref07_span_s : TSum := TSum.of (baseC (fun _ => none) (fun _ => [])) (Go.Proofs.Tryz.f103.results.toList) 0 ref07_span_i ref07_span_o (fun v => ref07_span v.1 v.2)
noncomputable def ref07_span_z : Code := Option.getD Go.Proofs.Tryz.f103.body .skip
noncomputable def ref07_span_x (gl : Glob) : TCtx := { baseC gl (lookS [(110, [ref07_Point_s])]) with inl := lookI [], fuel := 0, loops := lookL [], cuts := lookL [] }
theorem ref07_span_v {gl : Glob} (hg : Gs gl) : ValidS Go.Proofs.Tryz.prog gl 103 ref07_span_s := by
  refine validS_of (c := ref07_span_x gl) ?_ hm_ Go.Proofs.Tryz.func103 (body := ref07_span_z) ?_ ?_ ?_ ?_ ?_ ?_ ?_ ?_ ?_
  · exact tok_of tyB_ok cmpB_ok (.cons (.cons (ref07_Point_v hg) .nil) (hb_ 110 Go.Proofs.Tryz.func110 (by kernel_rfl) (by kernel_rfl)) .nil) .nil
  · kernel_rfl
  · rfl
  · exact annOK_by (l := []) (by kernel_rfl) (trivial)
  · exact fun (a0, a1) => Eq.symm (by kernel_rfl)
  · kernel_rfl
  · kernel_rfl
  · exact exitX_of (.cons (fun v => by kernel_rfl) .nil)
  · rfl
  · rfl
noncomputable def ref07_all_l2 : Loop1 := ⟨⟨[.b .str, .b (.int .u8), .b (.int .u8), .b (.int .i64), .b (.int .i64), .b (.int .i64)], 40, [(0, .v), (1, .v), (2, .v), (3, .v), (4, .v), (11, .v)], []⟩, [(.ret, ⟨[.b .bool], 40, [(10, .v)], []⟩), (.exit 0, ⟨[.b .str, .b (.int .i64), .b (.int .i64)], 40, [(0, .v), (3, .v), (4, .v)], []⟩)], ref07_all_b2⟩
noncomputable def ref07_all_i : Pat := ⟨[.b .str, .b (.int .u8), .b (.int .u8), .b (.int .i64), .b (.int .i64)], 40, [(0, .v), (1, .v), (2, .v), (3, .v), (4, .v)], []⟩
noncomputable def ref07_all_o : Exits := [(.ret, ⟨[.b .bool], 40, [(10, .v)], []⟩)]
noncomputable def ref07_all_s : TSum := TSum.of (baseC (fun _ => none) (fun _ => [])) (Go.Proofs.Tryz.f115.results.toList) 0 ref07_all_i ref07_all_o (fun v => ref07_all v.1 v.2.1 v.2.2.1 v.2.2.2.1 v.2.2.2.2)
noncomputable def ref07_all_z : Code := Option.getD Go.Proofs.Tryz.f115.body .skip
noncomputable def ref07_all_x (gl : Glob) : TCtx := { baseC gl (lookS []) with inl := lookI [], fuel := 0, loops := lookL [(2, ref07_all_l2)], cuts := lookL [] }
theorem ref07_all_v {gl : Glob} (hg : Gs gl) : ValidS Go.Proofs.Tryz.prog gl 115 ref07_all_s := by
  refine validS_of (c := ref07_all_x gl) ?_ hm_ Go.Proofs.Tryz.func115 (body := ref07_all_z) ?_ ?_ ?_ ?_ ?_ ?_ ?_ ?_ ?_
  · exact tok_of tyB_ok cmpB_ok .nil .nil
  · kernel_rfl
  · rfl
  · exact annOK_by (l := [∀ v, ref07_all_l2.body v = (roundT (ref07_all_x gl) ref07_all_l2.pat ref07_all_l2.exits (subAt [1, 0, 1, 0, 0] ref07_all_z) v).run]) (by kernel_rfl) (⟨fun (a0, a1, a2, a3, a4, a5) => Eq.symm (by kernel_rfl), trivial⟩)
  · exact fun (a0, a1, a2, a3, a4) => Eq.symm (by kernel_rfl)
  · kernel_rfl
  · kernel_rfl
  · exact exitX_of (.cons (fun v => by kernel_rfl) .nil)
  · rfl
  · rfl
noncomputable def ref07_number_l5 : Loop1 := ⟨⟨[.b .str, .b (.int .i64), .b (.int .i64)], 30, [(0, .v), (3, .v), (4, .v)], []⟩, [(.exit 0, ⟨[.b (.int .i64)], 30, [(3, .v)], []⟩)], ref07_number_b5⟩
noncomputable def ref07_number_i : Pat := ⟨[.b .str], 30, [(0, .v)], []⟩
noncomputable def ref07_number_o : Exits := [(.ret, ⟨[.b (.int .i64)], 30, [(2, .v)], []⟩)]
noncomputable def ref07_number_s : TSum := TSum.of (baseC (fun _ => none) (fun _ => [])) (Go.Proofs.Tryz.f104.results.toList) 0 ref07_number_i ref07_number_o (fun v => ref07_number v)
noncomputable def ref07_number_z : Code := Option.getD Go.Proofs.Tryz.f104.body .skip
noncomputable def ref07_number_x (gl : Glob) : TCtx := { baseC gl (lookS [(115, [ref07_all_s])]) with inl := lookI [], fuel := 0, loops := lookL [(5, ref07_number_l5)], cuts := lookL [] }
theorem ref07_number_v {gl : Glob} (hg : Gs gl) : ValidS Go.Proofs.Tryz.prog gl 104 ref07_number_s := by
  refine validS_of (c := ref07_number_x gl) ?_ hm_ Go.Proofs.Tryz.func104 (body := ref07_number_z) ?_ ?_ ?_ ?_ ?_ ?_ ?_ ?_ ?_
  · exact tok_of tyB_ok cmpB_ok (.cons (.cons (ref07_all_v hg) .nil) (hb_ 115 Go.Proofs.Tryz.func115 (by kernel_rfl) (by kernel_rfl)) .nil) .nil
  · kernel_rfl
  · rfl
  · exact annOK_by (l := [∀ v, ref07_number_l5.body v = (roundT (ref07_number_x gl) ref07_number_l5.pat ref07_number_l5.exits (subAt [1, 1, 1, 0, 1, 0, 0] ref07_number_z) v).run]) (by kernel_rfl) (⟨fun (a0, a1, a2) => Eq.symm (by kernel_rfl), trivial⟩)
  · exact fun v => Eq.symm (by kernel_rfl)
  · kernel_rfl
  · kernel_rfl
  · exact exitX_of (.cons (fun v => by kernel_rfl) .nil)
  · rfl
  · rfl
noncomputable def ref07_Classes_l4 : Loop1 := ⟨⟨[.b (.int .i64), .r [.s 9 [.str]], .r KzT], 81, [(4, (.own 5000)), (5, (.own 1110)), (6, .v)], [⟨1110, 0, .row true 113 [.s 9 [.str]]⟩, ⟨5000, 0, .row true 85 KzT⟩]⟩, [(.ret, ⟨[.b (.int .i64)], 81, [(2, (.lit (.slice none 0 0))), (3, .v)], []⟩), (.exit 0, ⟨[.r KzT], 81, [(4, (.own 5000))], [⟨5000, 0, .row true 85 KzT⟩]⟩)], ref07_Classes_b4⟩
noncomputable def ref07_Classes_i : Pat := ⟨[.b .str], 81, [(0, .v)], []⟩
noncomputable def ref07_Classes_o : Exits := [(.ret, ⟨[.b (.int .i64), .r KzT], 81, [(2, (.own 5000)), (3, .v)], [⟨5000, 0, .row true 85 KzT⟩]⟩)]
noncomputable def ref07_Classes_s : TSum := TSum.of (baseC (fun _ => none) (fun _ => [])) (Go.Proofs.Tryz.f45.results.toList) 0 ref07_Classes_i ref07_Classes_o (fun v => ref07_Classes v)
noncomputable def ref07_Classes_z : Code := Option.getD Go.Proofs.Tryz.f45.body .skip
noncomputable def ref07_Classes_x (gl : Glob) : TCtx := { baseC gl (lookS [(102, [ref07_Lines_s]), (103, [ref07_span_s]), (104, [ref07_number_s])]) with inl := lookI [], fuel := 0, loops := lookL [(4, ref07_Classes_l4)], cuts := lookL [] }
theorem ref07_Classes_v {gl : Glob} (hg : Gs gl) : ValidS Go.Proofs.Tryz.prog gl 45 ref07_Classes_s := by
  refine validS_of (c := ref07_Classes_x gl) ?_ hm_ Go.Proofs.Tryz.func45 (body := ref07_Classes_z) ?_ ?_ ?_ ?_ ?_ ?_ ?_ ?_ ?_
  · exact tok_of tyB_ok cmpB_ok (.cons (.cons (ref07_Lines_v hg) .nil) (hb_ 102 Go.Proofs.Tryz.func102 (by kernel_rfl) (by kernel_rfl)) (.cons (.cons (ref07_span_v hg) .nil) (hb_ 103 Go.Proofs.Tryz.func103 (by kernel_rfl) (by kernel_rfl)) (.cons (.cons (ref07_number_v hg) .nil) (hb_ 104 Go.Proofs.Tryz.func104 (by kernel_rfl) (by kernel_rfl)) .nil))) .nil
  · kernel_rfl
  · rfl
  · exact annOK_by (l := [∀ v, ref07_Classes_l4.body v = (roundT (ref07_Classes_x gl) ref07_Classes_l4.pat ref07_Classes_l4.exits (subAt [1, 1, 1, 0, 1, 0, 0] ref07_Classes_z) v).run]) (by kernel_rfl) (⟨fun (a0, a1, a2) => Eq.symm (by kernel_rfl), trivial⟩)
  · exact fun v => Eq.symm (by kernel_rfl)
  · kernel_rfl
  · kernel_rfl
  · exact exitX_of (.cons (fun v => by kernel_rfl) .nil)
  · rfl
  · rfl
noncomputable def ref07_Runs_l4 : Loop1 := ⟨⟨[.b (.int .i64), .r [.s 9 [.str]], .r KzT], 81, [(4, (.own 5000)), (5, (.own 1110)), (6, .v)], [⟨1110, 0, .row true 113 [.s 9 [.str]]⟩, ⟨5000, 0, .row true 87 KzT⟩]⟩, [(.ret, ⟨[.b (.int .i64)], 81, [(2, (.lit (.slice none 0 0))), (3, .v)], []⟩), (.exit 0, ⟨[.r KzT], 81, [(4, (.own 5000))], [⟨5000, 0, .row true 87 KzT⟩]⟩)], ref07_Runs_b4⟩
noncomputable def ref07_Runs_i : Pat := ⟨[.b .str], 81, [(0, .v)], []⟩
noncomputable def ref07_Runs_o : Exits := [(.ret, ⟨[.b (.int .i64), .r KzT], 81, [(2, (.own 5000)), (3, .v)], [⟨5000, 0, .row true 87 KzT⟩]⟩)]
noncomputable def ref07_Runs_s : TSum := TSum.of (baseC (fun _ => none) (fun _ => [])) (Go.Proofs.Tryz.f47.results.toList) 0 ref07_Runs_i ref07_Runs_o (fun v => ref07_Runs v)
noncomputable def ref07_Runs_z : Code := Option.getD Go.Proofs.Tryz.f47.body .skip
noncomputable def ref07_Runs_x (gl : Glob) : TCtx := { baseC gl (lookS [(102, [ref07_Lines_s]), (110, [ref07_Point_s]), (103, [ref07_span_s])]) with inl := lookI [], fuel := 0, loops := lookL [(4, ref07_Runs_l4)], cuts := lookL [] }
theorem ref07_Runs_v {gl : Glob} (hg : Gs gl) : ValidS Go.Proofs.Tryz.prog gl 47 ref07_Runs_s := by
  refine validS_of (c := ref07_Runs_x gl) ?_ hm_ Go.Proofs.Tryz.func47 (body := ref07_Runs_z) ?_ ?_ ?_ ?_ ?_ ?_ ?_ ?_ ?_
  · exact tok_of tyB_ok cmpB_ok (.cons (.cons (ref07_Lines_v hg) .nil) (hb_ 102 Go.Proofs.Tryz.func102 (by kernel_rfl) (by kernel_rfl)) (.cons (.cons (ref07_Point_v hg) .nil) (hb_ 110 Go.Proofs.Tryz.func110 (by kernel_rfl) (by kernel_rfl)) (.cons (.cons (ref07_span_v hg) .nil) (hb_ 103 Go.Proofs.Tryz.func103 (by kernel_rfl) (by kernel_rfl)) .nil))) .nil
  · kernel_rfl
  · rfl
  · exact annOK_by (l := [∀ v, ref07_Runs_l4.body v = (roundT (ref07_Runs_x gl) ref07_Runs_l4.pat ref07_Runs_l4.exits (subAt [1, 1, 1, 0, 1, 0, 0] ref07_Runs_z) v).run]) (by kernel_rfl) (⟨fun (a0, a1, a2) => Eq.symm (by kernel_rfl), trivial⟩)
  · exact fun v => Eq.symm (by kernel_rfl)
  · kernel_rfl
  · kernel_rfl
  · exact exitX_of (.cons (fun v => by kernel_rfl) .nil)
  · rfl
  · rfl
end Go.Tx

namespace Go.Tx
open Go Go.Sx
noncomputable def ref07_Ranges_l4 : Loop1 := ⟨⟨[.b (.int .i64), .r [.s 9 [.str]], .r KzR], 154, [(4, (.own 5000)), (5, (.own 1110)), (6, .v)], [⟨1110, 0, .row true 113 [.s 9 [.str]]⟩, ⟨5000, 0, .row true 98 KzR⟩]⟩, [(.exit 0, ⟨[.r KzR], 154, [(4, (.own 5000))], [⟨5000, 0, .row true 98 KzR⟩]⟩), (.ret, ⟨[.b (.int .i64)], 154, [(2, (.lit (.slice none 0 0))), (3, .v)], []⟩)], ref07_Ranges_b4⟩
noncomputable def ref07_Ranges_k6 : Cut1 := ⟨⟨[.b (.int .i64), .r KzR, .r [.s 9 [.str]]], 154, [(4, (.own 5000)), (5, (.own 1110)), (6, .v)], [⟨5000, 0, .row true 98 KzR⟩, ⟨1110, 0, .row true 113 [.s 9 [.str]]⟩]⟩, [(.ret, ⟨[.b (.int .i64)], 154, [(2, (.lit (.slice none 0 0))), (3, .v)], []⟩), (.normal, ⟨[.b (.int .i64), .r KzR, .r [.s 9 [.str]]], 154, [(4, (.own 5000)), (5, (.own 1110)), (6, .v)], [⟨5000, 0, .row true 98 KzR⟩, ⟨1110, 0, .row true 113 [.s 9 [.str]]⟩]⟩)], ref07_Ranges_c6⟩
noncomputable def ref07_Ranges_k5 : Cut1 := ⟨⟨[.b (.int .i64), .r KzR, .r [.s 9 [.str]]], 154, [(4, (.own 5000)), (5, (.own 1110)), (6, .v)], [⟨5000, 0, .row true 98 KzR⟩, ⟨1110, 0, .row true 113 [.s 9 [.str]]⟩]⟩, [(.normal, ⟨[.b (.int .i64), .r KzR, .r [.s 9 [.str]]], 154, [(4, (.own 5000)), (5, (.own 1110)), (6, .v)], [⟨5000, 0, .row true 98 KzR⟩, ⟨1110, 0, .row true 113 [.s 9 [.str]]⟩]⟩)], ref07_Ranges_c5⟩
noncomputable def ref07_Ranges_k9 : Cut1 := ⟨⟨[.b (.int .i64), .r KzR, .r [.s 9 [.str]], .r [.b .str]], 154, [(4, (.own 5000)), (5, (.own 1110)), (6, .v), (7, (.own 1210))], [⟨5000, 0, .row true 98 KzR⟩, ⟨1110, 0, .row true 113 [.s 9 [.str]]⟩, ⟨1210, 0, .row false 9 [.b .str]⟩]⟩, [(.ret, ⟨[.b (.int .i64)], 154, [(2, (.lit (.slice none 0 0))), (3, .v)], []⟩), (.normal, ⟨[.b (.int .i64), .r KzR, .r [.s 9 [.str]]], 154, [(4, (.own 5000)), (5, (.own 1110)), (6, .v)], [⟨5000, 0, .row true 98 KzR⟩, ⟨1110, 0, .row true 113 [.s 9 [.str]]⟩]⟩)], ref07_Ranges_c9⟩
noncomputable def ref07_Ranges_k12 : Cut1 := ⟨⟨[.b (.int .i64), .r KzR, .r [.s 9 [.str]], .r [.b .str], .b (.int .u32), .b (.int .u32)], 154, [(4, (.own 5000)), (5, (.own 1110)), (6, .v), (7, (.own 1210)), (8, (.ptr 108 0))], [⟨5000, 0, .row true 98 KzR⟩, ⟨1110, 0, .row true 113 [.s 9 [.str]]⟩, ⟨1210, 0, .row false 9 [.b .str]⟩, ⟨108, 0, .cells [.v, .v]⟩]⟩, [(.ret, ⟨[.b (.int .i64)], 154, [(2, (.lit (.slice none 0 0))), (3, .v)], []⟩), (.normal, ⟨[.b (.int .i64), .r KzR, .r [.s 9 [.str]]], 154, [(4, (.own 5000)), (5, (.own 1110)), (6, .v)], [⟨5000, 0, .row true 98 KzR⟩, ⟨1110, 0, .row true 113 [.s 9 [.str]]⟩]⟩)], ref07_Ranges_c12⟩
noncomputable def ref07_Ranges_k14 : Cut1 := ⟨⟨[.b (.int .i64), .r KzR, .r [.s 9 [.str]], .r [.b .str], .b (.int .u32), .b (.int .u32)], 154, [(4, (.own 5000)), (5, (.own 1110)), (6, .v), (7, (.own 1210)), (8, (.ptr 108 0))], [⟨5000, 0, .row true 98 KzR⟩, ⟨1110, 0, .row true 113 [.s 9 [.str]]⟩, ⟨1210, 0, .row false 9 [.b .str]⟩, ⟨108, 0, .cells [.v, .v]⟩]⟩, [(.normal, ⟨[.b (.int .i64), .r KzR, .r [.s 9 [.str]]], 154, [(4, (.own 5000)), (5, (.own 1110)), (6, .v)], [⟨5000, 0, .row true 98 KzR⟩, ⟨1110, 0, .row true 113 [.s 9 [.str]]⟩]⟩)], ref07_Ranges_c14⟩
noncomputable def ref07_Ranges_i : Pat := ⟨[.b .str], 154, [(0, .v)], []⟩
noncomputable def ref07_Ranges_o : Exits := [(.ret, ⟨[.b (.int .i64), .r KzR], 154, [(2, (.own 5000)), (3, .v)], [⟨5000, 0, .row true 98 KzR⟩]⟩)]
noncomputable def ref07_Ranges_s : TSum := TSum.of (baseC (fun _ => none) (fun _ => [])) (Go.Proofs.Tryz.f50.results.toList) 0 ref07_Ranges_i ref07_Ranges_o (fun v => ref07_Ranges v)
noncomputable def ref07_Ranges_z : Code := Option.getD Go.Proofs.Tryz.f50.body .skip
noncomputable def ref07_Ranges_x (gl : Glob) : TCtx := { baseC gl (lookS [(102, [ref07_Lines_s]), (103, [ref07_span_s]), (115, [ref07_all_s])]) with inl := lookI [], fuel := 0, loops := lookL [(4, ref07_Ranges_l4)], cuts := lookL [(6, ref07_Ranges_k6), (5, ref07_Ranges_k5), (9, ref07_Ranges_k9), (12, ref07_Ranges_k12), (14, ref07_Ranges_k14)] }
theorem ref07_Ranges_v {gl : Glob} (hg : Gs gl) : ValidS Go.Proofs.Tryz.prog gl 50 ref07_Ranges_s := by
  refine validS_of (c := ref07_Ranges_x gl) ?_ hm_ Go.Proofs.Tryz.func50 (body := ref07_Ranges_z) ?_ ?_ ?_ ?_ ?_ ?_ ?_ ?_ ?_
  · exact tok_of tyB_ok cmpB_ok (.cons (.cons (ref07_Lines_v hg) .nil) (hb_ 102 Go.Proofs.Tryz.func102 (by kernel_rfl) (by kernel_rfl)) (.cons (.cons (ref07_span_v hg) .nil) (hb_ 103 Go.Proofs.Tryz.func103 (by kernel_rfl) (by kernel_rfl)) (.cons (.cons (ref07_all_v hg) .nil) (hb_ 115 Go.Proofs.Tryz.func115 (by kernel_rfl) (by kernel_rfl)) .nil))) .nil
  · kernel_rfl
  · rfl
  · exact annOK_by (l := [∀ v, ref07_Ranges_k14.fn v = (pieceT (ref07_Ranges_x gl) ref07_Ranges_k14.pat ref07_Ranges_k14.exits (subAt [1, 1, 1, 0, 1, 0, 0, 1, 0, 0, 1, 1, 1, 1, 1] ref07_Ranges_z) v).run, ∀ v, ref07_Ranges_k12.fn v = (pieceT (ref07_Ranges_x gl) ref07_Ranges_k12.pat ref07_Ranges_k12.exits (subAt [1, 1, 1, 0, 1, 0, 0, 1, 0, 0, 1, 1, 1, 1] ref07_Ranges_z) v).run, ∀ v, ref07_Ranges_k9.fn v = (pieceT (ref07_Ranges_x gl) ref07_Ranges_k9.pat ref07_Ranges_k9.exits (subAt [1, 1, 1, 0, 1, 0, 0, 1, 0, 0, 1, 1] ref07_Ranges_z) v).run, ∀ v, ref07_Ranges_k5.fn v = (pieceT (ref07_Ranges_x gl) ref07_Ranges_k5.pat ref07_Ranges_k5.exits (subAt [1, 1, 1, 0, 1, 0, 0, 1, 1] ref07_Ranges_z) v).run, ∀ v, ref07_Ranges_k6.fn v = (pieceT (ref07_Ranges_x gl) ref07_Ranges_k6.pat ref07_Ranges_k6.exits (subAt [1, 1, 1, 0, 1, 0, 0, 1] ref07_Ranges_z) v).run, ∀ v, ref07_Ranges_l4.body v = (roundT (ref07_Ranges_x gl) ref07_Ranges_l4.pat ref07_Ranges_l4.exits (subAt [1, 1, 1, 0, 1, 0, 0] ref07_Ranges_z) v).run]) (by kernel_rfl) (⟨fun (a0, a1, a2, a3, a4, a5) => Eq.symm (by kernel_rfl), fun (a0, a1, a2, a3, a4, a5) => Eq.symm (by kernel_rfl), fun (a0, a1, a2, a3) => Eq.symm (by kernel_rfl), fun (a0, a1, a2) => Eq.symm (by kernel_rfl), fun (a0, a1, a2) => Eq.symm (by kernel_rfl), fun (a0, a1, a2) => Eq.symm (by kernel_rfl), trivial⟩)
  · exact fun v => Eq.symm (by kernel_rfl)
  · kernel_rfl
  · kernel_rfl
  · exact exitX_of (.cons (fun v => by kernel_rfl) .nil)
  · rfl
  · rfl
end Go.Tx

namespace Go.Tx
open Go Go.Sx
noncomputable def ref07_Sets_l4 : Loop1 := ⟨⟨[.b (.int .i64), .r [.s 9 [.str]], .r KzN], 67, [(4, (.own 5000)), (5, (.own 1100)), (6, .v)], [⟨1100, 0, .row true 113 [.s 9 [.str]]⟩, ⟨5000, 0, .row true 100 KzN⟩]⟩, [(.ret, ⟨[.b (.int .i64)], 67, [(2, (.lit (.slice none 0 0))), (3, .v)], []⟩), (.exit 0, ⟨[.r KzN], 67, [(4, (.own 5000))], [⟨5000, 0, .row true 100 KzN⟩]⟩)], ref07_Sets_b4⟩
noncomputable def ref07_Sets_i : Pat := ⟨[.b .str], 67, [(0, .v)], []⟩
noncomputable def ref07_Sets_o : Exits := [(.ret, ⟨[.b (.int .i64), .r KzN], 67, [(2, (.own 5000)), (3, .v)], [⟨5000, 0, .row true 100 KzN⟩]⟩)]
noncomputable def ref07_Sets_s : TSum := TSum.of (baseC (fun _ => none) (fun _ => [])) (Go.Proofs.Tryz.f52.results.toList) 0 ref07_Sets_i ref07_Sets_o (fun v => ref07_Sets v)
noncomputable def ref07_Sets_z : Code := Option.getD Go.Proofs.Tryz.f52.body .skip
noncomputable def ref07_Sets_x (gl : Glob) : TCtx := { baseC gl (lookS [(102, [ref07_Lines_s]), (103, [ref07_span_s]), (115, [ref07_all_s])]) with inl := lookI [], fuel := 0, loops := lookL [(4, ref07_Sets_l4)], cuts := lookL [] }
theorem ref07_Sets_v {gl : Glob} (hg : Gs gl) : ValidS Go.Proofs.Tryz.prog gl 52 ref07_Sets_s := by
  refine validS_of (c := ref07_Sets_x gl) ?_ hm_ Go.Proofs.Tryz.func52 (body := ref07_Sets_z) ?_ ?_ ?_ ?_ ?_ ?_ ?_ ?_ ?_
  · exact tok_of tyB_ok cmpB_ok (.cons (.cons (ref07_Lines_v hg) .nil) (hb_ 102 Go.Proofs.Tryz.func102 (by kernel_rfl) (by kernel_rfl)) (.cons (.cons (ref07_span_v hg) .nil) (hb_ 103 Go.Proofs.Tryz.func103 (by kernel_rfl) (by kernel_rfl)) (.cons (.cons (ref07_all_v hg) .nil) (hb_ 115 Go.Proofs.Tryz.func115 (by kernel_rfl) (by kernel_rfl)) .nil))) .nil
  · kernel_rfl
  · rfl
  · exact annOK_by (l := [∀ v, ref07_Sets_l4.body v = (roundT (ref07_Sets_x gl) ref07_Sets_l4.pat ref07_Sets_l4.exits (subAt [1, 1, 1, 0, 1, 0, 0] ref07_Sets_z) v).run]) (by kernel_rfl) (⟨fun (a0, a1, a2) => Eq.symm (by kernel_rfl), trivial⟩)
  · exact fun v => Eq.symm (by kernel_rfl)
  · kernel_rfl
  · kernel_rfl
  · exact exitX_of (.cons (fun v => by kernel_rfl) .nil)
  · rfl
  · rfl
noncomputable def ref07_Decomps_l4 : Loop1 := ⟨⟨[.b (.int .i64), .r [.s 9 [.str]], .r KzD], 116, [(4, (.own 5000)), (5, (.own 1110)), (6, .v)], [⟨1110, 0, .row true 113 [.s 9 [.str]]⟩, ⟨5000, 0, .row true 68 KzD⟩]⟩, [(.exit 0, ⟨[.r KzD], 116, [(4, (.own 5000))], [⟨5000, 0, .row true 68 KzD⟩]⟩), (.ret, ⟨[.b (.int .i64)], 116, [(2, (.lit (.slice none 0 0))), (3, .v)], []⟩)], ref07_Decomps_b4⟩
noncomputable def ref07_Decomps_l11 : Loop1 := ⟨⟨[.b (.int .i64), .b (.int .i64), .r KzD, .r [.s 9 [.str]], .r [.b .str], .b (.int .u32), .b .bool, .b .bool, .r [.b (.int .u32)]], 116, [(4, (.own 5000)), (5, (.own 1110)), (6, .v), (7, (.own 1210)), (8, (.ptr 108 0)), (9, .v)], [⟨5000, 0, .row true 68 KzD⟩, ⟨1110, 0, .row true 113 [.s 9 [.str]]⟩, ⟨1210, 0, .row false 9 [.b .str]⟩, ⟨108, 0, .cells [.v, (.own 5001), .v, .v]⟩, ⟨5001, 0, .row true 22 [.b (.int .u32)]⟩]⟩, [(.exit 2, ⟨[.b (.int .i64), .r KzD, .r [.s 9 [.str]], .b (.int .u32), .b .bool, .b .bool, .r [.b (.int .u32)]], 116, [(4, (.own 5000)), (5, (.own 1110)), (6, .v), (8, (.ptr 108 0))], [⟨5000, 0, .row true 68 KzD⟩, ⟨1110, 0, .row true 113 [.s 9 [.str]]⟩, ⟨108, 0, .cells [.v, (.own 5001), .v, .v]⟩, ⟨5001, 0, .row true 22 [.b (.int .u32)]⟩]⟩), (.ret, ⟨[.b (.int .i64)], 116, [(2, (.lit (.slice none 0 0))), (3, .v)], []⟩)], ref07_Decomps_b11⟩
noncomputable def ref07_Decomps_k6 : Cut1 := ⟨⟨[.b (.int .i64), .r KzD, .r [.s 9 [.str]]], 116, [(4, (.own 5000)), (5, (.own 1110)), (6, .v)], [⟨5000, 0, .row true 68 KzD⟩, ⟨1110, 0, .row true 113 [.s 9 [.str]]⟩]⟩, [(.ret, ⟨[.b (.int .i64)], 116, [(2, (.lit (.slice none 0 0))), (3, .v)], []⟩), (.normal, ⟨[.b (.int .i64), .r KzD, .r [.s 9 [.str]]], 116, [(4, (.own 5000)), (5, (.own 1110)), (6, .v)], [⟨5000, 0, .row true 68 KzD⟩, ⟨1110, 0, .row true 113 [.s 9 [.str]]⟩]⟩)], ref07_Decomps_c6⟩
noncomputable def ref07_Decomps_k5 : Cut1 := ⟨⟨[.b (.int .i64), .r KzD, .r [.s 9 [.str]]], 116, [(4, (.own 5000)), (5, (.own 1110)), (6, .v)], [⟨5000, 0, .row true 68 KzD⟩, ⟨1110, 0, .row true 113 [.s 9 [.str]]⟩]⟩, [(.normal, ⟨[.b (.int .i64), .r KzD, .r [.s 9 [.str]]], 116, [(4, (.own 5000)), (5, (.own 1110)), (6, .v)], [⟨5000, 0, .row true 68 KzD⟩, ⟨1110, 0, .row true 113 [.s 9 [.str]]⟩]⟩)], ref07_Decomps_c5⟩
noncomputable def ref07_Decomps_k9 : Cut1 := ⟨⟨[.b (.int .i64), .r KzD, .r [.s 9 [.str]], .r [.b .str]], 116, [(4, (.own 5000)), (5, (.own 1110)), (6, .v), (7, (.own 1210))], [⟨5000, 0, .row true 68 KzD⟩, ⟨1110, 0, .row true 113 [.s 9 [.str]]⟩, ⟨1210, 0, .row false 9 [.b .str]⟩]⟩, [(.ret, ⟨[.b (.int .i64)], 116, [(2, (.lit (.slice none 0 0))), (3, .v)], []⟩), (.normal, ⟨[.b (.int .i64), .r KzD, .r [.s 9 [.str]]], 116, [(4, (.own 5000)), (5, (.own 1110)), (6, .v)], [⟨5000, 0, .row true 68 KzD⟩, ⟨1110, 0, .row true 113 [.s 9 [.str]]⟩]⟩)], ref07_Decomps_c9⟩
noncomputable def ref07_Decomps_k13 : Cut1 := ⟨⟨[.b (.int .i64), .b (.int .i64), .r KzD, .r [.s 9 [.str]], .r [.b .str], .b (.int .u32), .b .bool, .b .bool, .r [.b (.int .u32)]], 116, [(4, (.own 5000)), (5, (.own 1110)), (6, .v), (7, (.own 1210)), (8, (.ptr 108 0)), (9, .v)], [⟨5000, 0, .row true 68 KzD⟩, ⟨1110, 0, .row true 113 [.s 9 [.str]]⟩, ⟨1210, 0, .row false 9 [.b .str]⟩, ⟨108, 0, .cells [.v, (.own 5001), .v, .v]⟩, ⟨5001, 0, .row true 22 [.b (.int .u32)]⟩]⟩, [(.ret, ⟨[.b (.int .i64)], 116, [(2, (.lit (.slice none 0 0))), (3, .v)], []⟩), (.normal, ⟨[.b (.int .i64), .b (.int .i64), .r KzD, .r [.s 9 [.str]], .r [.b .str], .b (.int .u32), .b .bool, .b .bool, .r [.b (.int .u32)]], 116, [(4, (.own 5000)), (5, (.own 1110)), (6, .v), (7, (.own 1210)), (8, (.ptr 108 0)), (9, .v)], [⟨5000, 0, .row true 68 KzD⟩, ⟨1110, 0, .row true 113 [.s 9 [.str]]⟩, ⟨1210, 0, .row false 9 [.b .str]⟩, ⟨108, 0, .cells [.v, (.own 194), .v, .v]⟩, ⟨194, 0, .row true 22 [.b (.int .u32)]⟩]⟩)], ref07_Decomps_c13⟩
noncomputable def ref07_Decomps_k12 : Cut1 := ⟨⟨[.b (.int .i64), .b (.int .i64), .r KzD, .r [.s 9 [.str]], .r [.b .str], .b (.int .u32), .b .bool, .b .bool, .r [.b (.int .u32)]], 116, [(4, (.own 5000)), (5, (.own 1110)), (6, .v), (7, (.own 1210)), (8, (.ptr 108 0)), (9, .v)], [⟨5000, 0, .row true 68 KzD⟩, ⟨1110, 0, .row true 113 [.s 9 [.str]]⟩, ⟨1210, 0, .row false 9 [.b .str]⟩, ⟨108, 0, .cells [.v, (.own 194), .v, .v]⟩, ⟨194, 0, .row true 22 [.b (.int .u32)]⟩]⟩, [(.normal, ⟨[.b (.int .i64), .b (.int .i64), .r KzD, .r [.s 9 [.str]], .r [.b .str], .b (.int .u32), .b .bool, .b .bool, .r [.b (.int .u32)]], 116, [(4, (.own 5000)), (5, (.own 1110)), (6, .v), (7, (.own 1210)), (8, (.ptr 108 0)), (9, .v)], [⟨5000, 0, .row true 68 KzD⟩, ⟨1110, 0, .row true 113 [.s 9 [.str]]⟩, ⟨1210, 0, .row false 9 [.b .str]⟩, ⟨108, 0, .cells [.v, (.own 194), .v, .v]⟩, ⟨194, 0, .row true 22 [.b (.int .u32)]⟩]⟩)], ref07_Decomps_c12⟩
noncomputable def ref07_Decomps_k15 : Cut1 := ⟨⟨[.b (.int .i64), .b (.int .i64), .r KzD, .r [.s 9 [.str]], .r [.b .str], .b (.int .u32), .b .bool, .b .bool, .r [.b (.int .u32)]], 116, [(4, (.own 5000)), (5, (.own 1110)), (6, .v), (7, (.own 1210)), (8, (.ptr 108 0)), (9, .v)], [⟨5000, 0, .row true 68 KzD⟩, ⟨1110, 0, .row true 113 [.s 9 [.str]]⟩, ⟨1210, 0, .row false 9 [.b .str]⟩, ⟨108, 0, .cells [.v, (.own 5001), .v, .v]⟩, ⟨5001, 0, .row true 22 [.b (.int .u32)]⟩]⟩, [(.normal, ⟨[.b (.int .i64), .b (.int .i64), .r KzD, .r [.s 9 [.str]], .r [.b .str], .b (.int .u32), .b .bool, .b .bool, .r [.b (.int .u32)]], 116, [(4, (.own 5000)), (5, (.own 1110)), (6, .v), (7, (.own 1210)), (8, (.ptr 108 0)), (9, .v)], [⟨5000, 0, .row true 68 KzD⟩, ⟨1110, 0, .row true 113 [.s 9 [.str]]⟩, ⟨1210, 0, .row false 9 [.b .str]⟩, ⟨108, 0, .cells [.v, (.own 194), .v, .v]⟩, ⟨194, 0, .row true 22 [.b (.int .u32)]⟩]⟩)], ref07_Decomps_c15⟩
noncomputable def ref07_Decomps_k18 : Cut1 := ⟨⟨[.b (.int .i64), .r KzD, .r [.s 9 [.str]], .b (.int .u32), .b .bool, .b .bool, .r [.b (.int .u32)]], 116, [(4, (.own 5000)), (5, (.own 1110)), (6, .v), (8, (.ptr 108 0))], [⟨5000, 0, .row true 68 KzD⟩, ⟨1110, 0, .row true 113 [.s 9 [.str]]⟩, ⟨108, 0, .cells [.v, (.own 5001), .v, .v]⟩, ⟨5001, 0, .row true 22 [.b (.int .u32)]⟩]⟩, [(.normal, ⟨[.b (.int .i64), .r KzD, .r [.s 9 [.str]]], 116, [(4, (.own 5000)), (5, (.own 1110)), (6, .v)], [⟨5000, 0, .row true 68 KzD⟩, ⟨1110, 0, .row true 113 [.s 9 [.str]]⟩]⟩)], ref07_Decomps_c18⟩
noncomputable def ref07_Decomps_i : Pat := ⟨[.b .str], 116, [(0, .v)], []⟩
noncomputable def ref07_Decomps_o : Exits := [(.ret, ⟨[.b (.int .i64), .r KzD], 116, [(2, (.own 5000)), (3, .v)], [⟨5000, 0, .row true 68 KzD⟩]⟩)]
noncomputable def ref07_Decomps_s : TSum := TSum.of (baseC (fun _ => none) (fun _ => [])) (Go.Proofs.Tryz.f54.results.toList) 0 ref07_Decomps_i ref07_Decomps_o (fun v => ref07_Decomps v)
noncomputable def ref07_Decomps_z : Code := Option.getD Go.Proofs.Tryz.f54.body .skip
noncomputable def ref07_Decomps_x (gl : Glob) : TCtx := { baseC gl (lookS [(102, [ref07_Lines_s]), (110, [ref07_Point_s])]) with inl := lookI [], fuel := 0, loops := lookL [(4, ref07_Decomps_l4), (11, ref07_Decomps_l11)], cuts := lookL [(6, ref07_Decomps_k6), (5, ref07_Decomps_k5), (9, ref07_Decomps_k9), (13, ref07_Decomps_k13), (12, ref07_Decomps_k12), (15, ref07_Decomps_k15), (18, ref07_Decomps_k18)] }
theorem ref07_Decomps_v {gl : Glob} (hg : Gs gl) : ValidS Go.Proofs.Tryz.prog gl 54 ref07_Decomps_s := by
  refine validS_of (c := ref07_Decomps_x gl) ?_ hm_ Go.Proofs.Tryz.func54 (body := ref07_Decomps_z) ?_ ?_ ?_ ?_ ?_ ?_ ?_ ?_ ?_
  · exact tok_of tyB_ok cmpB_ok (.cons (.cons (ref07_Lines_v hg) .nil) (hb_ 102 Go.Proofs.Tryz.func102 (by kernel_rfl) (by kernel_rfl)) (.cons (.cons (ref07_Point_v hg) .nil) (hb_ 110 Go.Proofs.Tryz.func110 (by kernel_rfl) (by kernel_rfl)) .nil)) .nil
  · kernel_rfl
  · rfl
  · exact annOK_by (l := [∀ v, ref07_Decomps_k15.fn v = (pieceT (ref07_Decomps_x gl) ref07_Decomps_k15.pat ref07_Decomps_k15.exits (subAt [1, 1, 1, 0, 1, 0, 0, 1, 0, 0, 1, 1, 1, 0, 1, 0, 0, 1, 0, 0, 1] ref07_Decomps_z) v).run, ∀ v, ref07_Decomps_k12.fn v = (pieceT (ref07_Decomps_x gl) ref07_Decomps_k12.pat ref07_Decomps_k12.exits (subAt [1, 1, 1, 0, 1, 0, 0, 1, 0, 0, 1, 1, 1, 0, 1, 0, 0, 1, 1] ref07_Decomps_z) v).run, ∀ v, ref07_Decomps_k13.fn v = (pieceT (ref07_Decomps_x gl) ref07_Decomps_k13.pat ref07_Decomps_k13.exits (subAt [1, 1, 1, 0, 1, 0, 0, 1, 0, 0, 1, 1, 1, 0, 1, 0, 0, 1] ref07_Decomps_z) v).run, ∀ v, ref07_Decomps_l11.body v = (roundT (ref07_Decomps_x gl) ref07_Decomps_l11.pat ref07_Decomps_l11.exits (subAt [1, 1, 1, 0, 1, 0, 0, 1, 0, 0, 1, 1, 1, 0, 1, 0, 0] ref07_Decomps_z) v).run, ∀ v, ref07_Decomps_k18.fn v = (pieceT (ref07_Decomps_x gl) ref07_Decomps_k18.pat ref07_Decomps_k18.exits (subAt [1, 1, 1, 0, 1, 0, 0, 1, 0, 0, 1, 1, 1, 1, 1] ref07_Decomps_z) v).run, ∀ v, ref07_Decomps_k9.fn v = (pieceT (ref07_Decomps_x gl) ref07_Decomps_k9.pat ref07_Decomps_k9.exits (subAt [1, 1, 1, 0, 1, 0, 0, 1, 0, 0, 1, 1] ref07_Decomps_z) v).run, ∀ v, ref07_Decomps_k5.fn v = (pieceT (ref07_Decomps_x gl) ref07_Decomps_k5.pat ref07_Decomps_k5.exits (subAt [1, 1, 1, 0, 1, 0, 0, 1, 1] ref07_Decomps_z) v).run, ∀ v, ref07_Decomps_k6.fn v = (pieceT (ref07_Decomps_x gl) ref07_Decomps_k6.pat ref07_Decomps_k6.exits (subAt [1, 1, 1, 0, 1, 0, 0, 1] ref07_Decomps_z) v).run, ∀ v, ref07_Decomps_l4.body v = (roundT (ref07_Decomps_x gl) ref07_Decomps_l4.pat ref07_Decomps_l4.exits (subAt [1, 1, 1, 0, 1, 0, 0] ref07_Decomps_z) v).run]) (by kernel_rfl) (⟨fun (a0, a1, a2, a3, a4, a5, a6, a7, a8) => Eq.symm (by kernel_rfl), fun (a0, a1, a2, a3, a4, a5, a6, a7, a8) => Eq.symm (by kernel_rfl), fun (a0, a1, a2, a3, a4, a5, a6, a7, a8) => Eq.symm (by kernel_rfl), fun (a0, a1, a2, a3, a4, a5, a6, a7, a8) => Eq.symm (by kernel_rfl), fun (a0, a1, a2, a3, a4, a5, a6) => Eq.symm (by kernel_rfl), fun (a0, a1, a2, a3) => Eq.symm (by kernel_rfl), fun (a0, a1, a2) => Eq.symm (by kernel_rfl), fun (a0, a1, a2) => Eq.symm (by kernel_rfl), fun (a0, a1, a2) => Eq.symm (by kernel_rfl), trivial⟩)
  · exact fun v => Eq.symm (by kernel_rfl)
  · kernel_rfl
  · kernel_rfl
  · exact exitX_of (.cons (fun v => by kernel_rfl) .nil)
  · rfl
  · rfl
end Go.Tx

namespace Go.Tx
open Go Go.Sx
noncomputable def ref08_New_i : Pat := ⟨[], 33, [], []⟩
noncomputable def ref08_New_o : Exits := [(.ret, ⟨[.r KzR, .r KzT, .r KzD, .r KzT, .r KzT, .r KzN], 33, [(0, (.ptr 100 0))], [⟨100, 0, .cells [(.own 1030), (.own 1080), (.own 1130), (.own 1180), (.own 1230), (.own 1280)]⟩, ⟨1030, 0, .row true 98 KzR⟩, ⟨1080, 0, .row true 85 KzT⟩, ⟨1130, 0, .row true 68 KzD⟩, ⟨1180, 0, .row true 87 KzT⟩, ⟨1230, 0, .row true 87 KzT⟩, ⟨1280, 0, .row true 100 KzN⟩]⟩)]
noncomputable def ref08_New_s : TSum := TSum.of (baseC (fun _ => none) (fun _ => [])) (Go.Proofs.Tryz.f15.results.toList) 0 ref08_New_i ref08_New_o (fun v => ref08_New )
noncomputable def ref08_New_z : Code := Option.getD Go.Proofs.Tryz.f15.body .skip
noncomputable def ref08_New_x (gl : Glob) : TCtx := { baseC gl (lookS [(45, [ref07_Classes_s]), (47, [ref07_Runs_s]), (50, [ref07_Ranges_s]), (52, [ref07_Sets_s]), (54, [ref07_Decomps_s])]) with inl := lookI [], fuel := 0, loops := lookL [], cuts := lookL [] }
theorem ref08_New_v {gl : Glob} (hg : Gs gl) : ValidS Go.Proofs.Tryz.prog gl 15 ref08_New_s := by
  refine validS_of (c := ref08_New_x gl) ?_ hm_ Go.Proofs.Tryz.func15 (body := ref08_New_z) ?_ ?_ ?_ ?_ ?_ ?_ ?_ ?_ ?_
  · exact tok_of tyB_ok cmpB_ok (.cons (.cons (ref07_Classes_v hg) .nil) (hb_ 45 Go.Proofs.Tryz.func45 (by kernel_rfl) (by kernel_rfl)) (.cons (.cons (ref07_Runs_v hg) .nil) (hb_ 47 Go.Proofs.Tryz.func47 (by kernel_rfl) (by kernel_rfl)) (.cons (.cons (ref07_Ranges_v hg) .nil) (hb_ 50 Go.Proofs.Tryz.func50 (by kernel_rfl) (by kernel_rfl)) (.cons (.cons (ref07_Sets_v hg) .nil) (hb_ 52 Go.Proofs.Tryz.func52 (by kernel_rfl) (by kernel_rfl)) (.cons (.cons (ref07_Decomps_v hg) .nil) (hb_ 54 Go.Proofs.Tryz.func54 (by kernel_rfl) (by kernel_rfl)) .nil))))) .nil
  · kernel_rfl
  · rfl
  · exact annOK_by (l := []) (by kernel_rfl) (trivial)
  · exact fun v => Eq.symm (by kernel_rfl)
  · kernel_rfl
  · kernel_rfl
  · exact exitX_of (.cons (fun v => by kernel_rfl) .nil)
  · rfl
  · rfl
noncomputable def ref08_Tables_Line_l2 : Loop1 := ⟨⟨[.b (.int .u32), .b .bool, .b (.int .i64), .r KzR, .r KzT, .r KzD, .r KzT, .r KzT, .r KzN], 36, [(1, .v), (2, .v), (3, (.ptr 103 0)), (7, .v)], [⟨103, 0, .cells [(.own 0), (.own 1), (.own 2), (.own 3), (.own 4), (.own 5)]⟩, ⟨0, 0, .row true 98 KzR⟩, ⟨1, 0, .row true 85 KzT⟩, ⟨2, 0, .row true 68 KzD⟩, ⟨3, 0, .row true 87 KzT⟩, ⟨4, 0, .row true 87 KzT⟩, ⟨5, 0, .row true 100 KzN⟩]⟩, [(.ret, ⟨[.b (.int .i64), .r KzR, .r KzT, .r KzD, .r KzT, .r KzT, .r KzN], 36, [(6, .v)], [⟨0, 0, .row true 98 KzR⟩, ⟨1, 0, .row true 85 KzT⟩, ⟨2, 0, .row true 68 KzD⟩, ⟨3, 0, .row true 87 KzT⟩, ⟨4, 0, .row true 87 KzT⟩, ⟨5, 0, .row true 100 KzN⟩]⟩), (.exit 0, ⟨[.r KzR, .r KzT, .r KzD, .r KzT, .r KzT, .r KzN], 36, [], [⟨0, 0, .row true 98 KzR⟩, ⟨1, 0, .row true 85 KzT⟩, ⟨2, 0, .row true 68 KzD⟩, ⟨3, 0, .row true 87 KzT⟩, ⟨4, 0, .row true 87 KzT⟩, ⟨5, 0, .row true 100 KzN⟩]⟩)], ref08_Tables_Line_b2⟩
noncomputable def ref08_Tables_Line_i : Pat := ⟨[.b (.int .u32), .b .bool, .r KzR, .r KzT, .r KzD, .r KzT, .r KzT, .r KzN], 36, [(0, (.agg [(.own 0), (.own 1), (.own 2), (.own 3), (.own 4), (.own 5)])), (1, .v), (2, .v)], [⟨0, 0, .row true 98 KzR⟩, ⟨1, 0, .row true 85 KzT⟩, ⟨2, 0, .row true 68 KzD⟩, ⟨3, 0, .row true 87 KzT⟩, ⟨4, 0, .row true 87 KzT⟩, ⟨5, 0, .row true 100 KzN⟩]⟩
noncomputable def ref08_Tables_Line_o : Exits := [(.ret, ⟨[.b (.int .i64), .r KzR, .r KzT, .r KzD, .r KzT, .r KzT, .r KzN], 36, [(6, .v)], [⟨0, 0, .row true 98 KzR⟩, ⟨1, 0, .row true 85 KzT⟩, ⟨2, 0, .row true 68 KzD⟩, ⟨3, 0, .row true 87 KzT⟩, ⟨4, 0, .row true 87 KzT⟩, ⟨5, 0, .row true 100 KzN⟩]⟩)]
noncomputable def ref08_Tables_Line_s : TSum := TSum.of (baseC (fun _ => none) (fun _ => [])) (Go.Proofs.Tryz.f18.results.toList) 6 ref08_Tables_Line_i ref08_Tables_Line_o (fun v => ref08_Tables_Line v.1 v.2.1 v.2.2.1 v.2.2.2.1 v.2.2.2.2.1 v.2.2.2.2.2.1 v.2.2.2.2.2.2.1 v.2.2.2.2.2.2.2)
noncomputable def ref08_Tables_Line_z : Code := Option.getD Go.Proofs.Tryz.f18.body .skip
noncomputable def ref08_Tables_Line_x (gl : Glob) : TCtx := { baseC gl (lookS []) with inl := lookI [], fuel := 0, loops := lookL [(2, ref08_Tables_Line_l2)], cuts := lookL [] }
theorem ref08_Tables_Line_v {gl : Glob} (hg : Gs gl) : ValidS Go.Proofs.Tryz.prog gl 18 ref08_Tables_Line_s := by
  refine validS_of (c := ref08_Tables_Line_x gl) ?_ hm_ Go.Proofs.Tryz.func18 (body := ref08_Tables_Line_z) ?_ ?_ ?_ ?_ ?_ ?_ ?_ ?_ ?_
  · exact tok_of tyB_ok cmpB_ok .nil .nil
  · kernel_rfl
  · rfl
  · exact annOK_by (l := [∀ v, ref08_Tables_Line_l2.body v = (roundT (ref08_Tables_Line_x gl) ref08_Tables_Line_l2.pat ref08_Tables_Line_l2.exits (subAt [1, 0, 1, 0, 0] ref08_Tables_Line_z) v).run]) (by kernel_rfl) (⟨fun (a0, a1, a2, a3, a4, a5, a6, a7, a8) => Eq.symm (by kernel_rfl), trivial⟩)
  · exact fun (a0, a1, a2, a3, a4, a5, a6, a7) => Eq.symm (by kernel_rfl)
  · kernel_rfl
  · kernel_rfl
  · exact exitX_of (.cons (fun v => by kernel_rfl) .nil)
  · rfl
  · rfl
end Go.Tx

namespace Go.Tx
open Go Go.Sx
noncomputable def ref06_Has_i : Pat := ⟨[.b (.int .u32), .b (.int .u32), .b (.int .u32)], 15, [(0, (.agg [.v, .v])), (1, .v)], []⟩
noncomputable def ref06_Has_o : Exits := [(.ret, ⟨[.b .bool], 15, [(4, .v)], []⟩)]
noncomputable def ref06_Has_s : TSum := TSum.of (baseC (fun _ => none) (fun _ => [])) (Go.Proofs.Tryz.f72.results.toList) 0 ref06_Has_i ref06_Has_o (fun v => ref06_Has v.1 v.2.1 v.2.2)
noncomputable def ref06_Has_z : Code := Option.getD Go.Proofs.Tryz.f72.body .skip
noncomputable def ref06_Has_x (gl : Glob) : TCtx := { baseC gl (lookS []) with inl := lookI [], fuel := 0, loops := lookL [], cuts := lookL [] }
theorem ref06_Has_v {gl : Glob} (hg : Gs gl) : ValidS Go.Proofs.Tryz.prog gl 72 ref06_Has_s := by
  refine validS_of (c := ref06_Has_x gl) ?_ hm_ Go.Proofs.Tryz.func72 (body := ref06_Has_z) ?_ ?_ ?_ ?_ ?_ ?_ ?_ ?_ ?_
  · exact tok_of tyB_ok cmpB_ok .nil .nil
  · kernel_rfl
  · rfl
  · exact annOK_by (l := []) (by kernel_rfl) (trivial)
  · exact fun (a0, a1, a2) => Eq.symm (by kernel_rfl)
  · kernel_rfl
  · kernel_rfl
  · exact exitX_of (.cons (fun v => by kernel_rfl) .nil)
  · rfl
  · rfl
end Go.Tx

namespace Go.Tx
open Go Go.Sx
end Go.Tx

namespace Go.Tx
open Go Go.Sx
end Go.Tx
