/- Part 18 of the proof of the statement that the last part names; it asks for no condition of its own. Here: GenTB, GenRB, GenR2B, GenR3B, GenR4B, GenPB, GenL1A, GenL1B. -/
import Derived.Test.YtgkfbembnlgahaaGreatDoorQag
import Derived.Test.YtgkfbembnlgahaaGreatDoorQao
import Derived.Test.YtgkfbembnlgahaaGreatDoorQaq
import Derived.Test.YtgkfbembnlgahaaGreatDoorQae
/- Printed by the driver (wip/drv): the contracts of Go functions, checked. -/
set_option linter.all false
set_option linter.unusedVariables false
set_option maxRecDepth 100000
set_option maxHeartbeats 0
namespace Go.Tx
open Go Go.Sx
/-! sabretache/tables.New -/
noncomputable def tables_New_i : Pat := ⟨[], 53, [], []⟩
noncomputable def tables_New_o : Exits := [(.ret, ⟨[.r [.b (.int .u32), .b (.int .u32), .b .str, .b .str, .b .str, .b .bool], .r [.b (.int .u32), .b (.int .u32), .b (.int .u32)], .r [.b (.int .u32), .s 22 [.int .u32], .b .bool, .b .bool], .r [.b (.int .u32), .b (.int .u32), .b (.int .u32)], .r [.b (.int .u32), .b (.int .u32), .b (.int .u32)], .r [.b .str, .b (.int .u32), .b (.int .u32)]], 53, [(0, (.ptr 103 0))], [⟨103, 0, .cells [(.own 1060), (.own 1140), (.own 1220), (.own 1300), (.own 1380), (.own 1460)]⟩, ⟨1060, 0, .row true 98 [.b (.int .u32), .b (.int .u32), .b .str, .b .str, .b .str, .b .bool]⟩, ⟨1140, 0, .row true 85 [.b (.int .u32), .b (.int .u32), .b (.int .u32)]⟩, ⟨1220, 0, .row true 68 [.b (.int .u32), .s 22 [.int .u32], .b .bool, .b .bool]⟩, ⟨1300, 0, .row true 87 [.b (.int .u32), .b (.int .u32), .b (.int .u32)]⟩, ⟨1380, 0, .row true 87 [.b (.int .u32), .b (.int .u32), .b (.int .u32)]⟩, ⟨1460, 0, .row true 100 [.b .str, .b (.int .u32), .b (.int .u32)]⟩]⟩)]
noncomputable def tables_New_s : TSum := TSum.of (baseC (fun _ => none) (fun _ => [])) (Go.Proofs.Tryz.f16.results.toList) 0 tables_New_i tables_New_o (fun v => tables_New )
noncomputable def tables_New_z : Code := Option.getD Go.Proofs.Tryz.f16.body .skip
noncomputable def tables_New_x (gl : Glob) : TCtx := { baseC gl (lookS [(49, [chart_Ranges_s]), (44, [chart_Classes_s]), (53, [chart_Decomps_s]), (46, [chart_Runs_s]), (51, [chart_Sets_s])]) with inl := lookI [], fuel := 0, loops := lookL [], cuts := lookL [] }
theorem tables_New_v {gl : Glob} (hg : Gs gl) : ValidS Go.Proofs.Tryz.prog gl 16 tables_New_s := by
  refine validS_of (c := tables_New_x gl) ?_ hm_ Go.Proofs.Tryz.func16 (body := tables_New_z) ?_ ?_ ?_ ?_ ?_ ?_ ?_ ?_ ?_
  · exact tok_of tyB_ok cmpB_ok (.cons (.cons (chart_Ranges_v hg) .nil) (hb_ 49 Go.Proofs.Tryz.func49 (by kernel_rfl) (by kernel_rfl)) (.cons (.cons (chart_Classes_v hg) .nil) (hb_ 44 Go.Proofs.Tryz.func44 (by kernel_rfl) (by kernel_rfl)) (.cons (.cons (chart_Decomps_v hg) .nil) (hb_ 53 Go.Proofs.Tryz.func53 (by kernel_rfl) (by kernel_rfl)) (.cons (.cons (chart_Runs_v hg) .nil) (hb_ 46 Go.Proofs.Tryz.func46 (by kernel_rfl) (by kernel_rfl)) (.cons (.cons (chart_Sets_v hg) .nil) (hb_ 51 Go.Proofs.Tryz.func51 (by kernel_rfl) (by kernel_rfl)) .nil))))) .nil
  · kernel_rfl
  · rfl
  · exact annOK_by (l := []) (by kernel_rfl) (trivial)
  · exact fun v => Eq.symm (by kernel_rfl)
  · kernel_rfl
  · kernel_rfl
  · exact exitX_of (.cons (fun v => by kernel_rfl) .nil)
  · rfl
  · rfl
/-! cmp.isNaN[uint32] -/
noncomputable def cmp_isNaN_uint32_i : Pat := ⟨[.b (.int .u32)], 6, [(0, .v)], []⟩
noncomputable def cmp_isNaN_uint32_o : Exits := [(.ret, ⟨[.b .bool], 6, [(2, .v)], []⟩)]
noncomputable def cmp_isNaN_uint32_s : TSum := TSum.of (baseC (fun _ => none) (fun _ => [])) (Go.Proofs.Tryz.f173.results.toList) 0 cmp_isNaN_uint32_i cmp_isNaN_uint32_o (fun v => cmp_isNaN_uint32 v)
noncomputable def cmp_isNaN_uint32_z : Code := Option.getD Go.Proofs.Tryz.f173.body .skip
noncomputable def cmp_isNaN_uint32_x (gl : Glob) : TCtx := { baseC gl (lookS []) with inl := lookI [], fuel := 0, loops := lookL [], cuts := lookL [] }
theorem cmp_isNaN_uint32_v {gl : Glob} (hg : Gs gl) : ValidS Go.Proofs.Tryz.prog gl 173 cmp_isNaN_uint32_s := by
  refine validS_of (c := cmp_isNaN_uint32_x gl) ?_ hm_ Go.Proofs.Tryz.func173 (body := cmp_isNaN_uint32_z) ?_ ?_ ?_ ?_ ?_ ?_ ?_ ?_ ?_
  · exact tok_of tyB_ok cmpB_ok .nil .nil
  · kernel_rfl
  · rfl
  · exact annOK_by (l := []) (by kernel_rfl) (trivial)
  · exact fun v => Eq.symm (by kernel_rfl)
  · kernel_rfl
  · kernel_rfl
  · exact exitX_of (.cons (fun v => by kernel_rfl) .nil)
  · rfl
  · rfl
/-! cmp.Compare[uint32] -/
noncomputable def cmp_Compare_uint32_i : Pat := ⟨[.b (.int .u32), .b (.int .u32)], 20, [(0, .v), (1, .v)], []⟩
noncomputable def cmp_Compare_uint32_o : Exits := [(.ret, ⟨[.b (.int .i64)], 20, [(4, .v)], []⟩)]
noncomputable def cmp_Compare_uint32_s : TSum := TSum.of (baseC (fun _ => none) (fun _ => [])) (Go.Proofs.Tryz.f128.results.toList) 0 cmp_Compare_uint32_i cmp_Compare_uint32_o (fun v => cmp_Compare_uint32 v.1 v.2)
noncomputable def cmp_Compare_uint32_z : Code := Option.getD Go.Proofs.Tryz.f128.body .skip
noncomputable def cmp_Compare_uint32_x (gl : Glob) : TCtx := { baseC gl (lookS [(173, [cmp_isNaN_uint32_s])]) with inl := lookI [], fuel := 0, loops := lookL [], cuts := lookL [] }
theorem cmp_Compare_uint32_v {gl : Glob} (hg : Gs gl) : ValidS Go.Proofs.Tryz.prog gl 128 cmp_Compare_uint32_s := by
  refine validS_of (c := cmp_Compare_uint32_x gl) ?_ hm_ Go.Proofs.Tryz.func128 (body := cmp_Compare_uint32_z) ?_ ?_ ?_ ?_ ?_ ?_ ?_ ?_ ?_
  · exact tok_of tyB_ok cmpB_ok (.cons (.cons (cmp_isNaN_uint32_v hg) .nil) (hb_ 173 Go.Proofs.Tryz.func173 (by kernel_rfl) (by kernel_rfl)) .nil) .nil
  · kernel_rfl
  · rfl
  · exact annOK_by (l := []) (by kernel_rfl) (trivial)
  · exact fun (a0, a1) => Eq.symm (by kernel_rfl)
  · kernel_rfl
  · kernel_rfl
  · exact exitX_of (.cons (fun v => by kernel_rfl) .nil)
  · rfl
  · rfl
/-! (*sabretache/tables.Tables).line$1 -/
noncomputable def tables_Tables_line_1_i : Pat := ⟨[.b (.int .u32), .b .bool, .b .bool, .b (.int .u32), .r [.b (.int .u32)]], 9, [(0, (.agg [.v, (.own 0), .v, .v])), (1, .v)], [⟨0, 0, .row false 22 [.b (.int .u32)]⟩]⟩
noncomputable def tables_Tables_line_1_o : Exits := [(.ret, ⟨[.b (.int .i64), .r [.b (.int .u32)]], 9, [(4, .v)], [⟨0, 0, .row false 22 [.b (.int .u32)]⟩]⟩)]
noncomputable def tables_Tables_line_1_s : TSum := TSum.of (baseC (fun _ => none) (fun _ => [])) (Go.Proofs.Tryz.f178.results.toList) 1 tables_Tables_line_1_i tables_Tables_line_1_o (fun v => tables_Tables_line_1 v.1 v.2.1 v.2.2.1 v.2.2.2.1 v.2.2.2.2)
noncomputable def tables_Tables_line_1_z : Code := Option.getD Go.Proofs.Tryz.f178.body .skip
noncomputable def tables_Tables_line_1_x (gl : Glob) : TCtx := { baseC gl (lookS [(128, [cmp_Compare_uint32_s])]) with inl := lookI [], fuel := 0, loops := lookL [], cuts := lookL [] }
theorem tables_Tables_line_1_v {gl : Glob} (hg : Gs gl) : ValidS Go.Proofs.Tryz.prog gl 178 tables_Tables_line_1_s := by
  refine validS_of (c := tables_Tables_line_1_x gl) ?_ hm_ Go.Proofs.Tryz.func178 (body := tables_Tables_line_1_z) ?_ ?_ ?_ ?_ ?_ ?_ ?_ ?_ ?_
  · exact tok_of tyB_ok cmpB_ok (.cons (.cons (cmp_Compare_uint32_v hg) .nil) (hb_ 128 Go.Proofs.Tryz.func128 (by kernel_rfl) (by kernel_rfl)) .nil) .nil
  · kernel_rfl
  · rfl
  · exact annOK_by (l := []) (by kernel_rfl) (trivial)
  · exact fun (a0, a1, a2, a3, a4) => Eq.symm (by kernel_rfl)
  · kernel_rfl
  · kernel_rfl
  · exact exitX_of (.cons (fun v => by kernel_rfl) .nil)
  · rfl
  · rfl
/-! slices.BinarySearchFunc[[]sabretache/api.Decomp,sabretache/api.Decomp,uint32] -/
noncomputable def slices_BinarySearchFunc___l3 : Loop1 := ⟨⟨[.b (.int .u32), .b (.int .i64), .b (.int .i64), .b (.int .i64), .r [.b (.int .u32), .s 22 [.int .u32], .b .bool, .b .bool]], 49, [(0, (.own 0)), (1, .v), (2, (.fn 178 [] [])), (8, .v), (9, .v), (10, .v)], [⟨0, 0, .row true 68 [.b (.int .u32), .s 22 [.int .u32], .b .bool, .b .bool]⟩]⟩, [(.exit 0, ⟨[.b (.int .u32), .b (.int .i64), .b (.int .i64), .r [.b (.int .u32), .s 22 [.int .u32], .b .bool, .b .bool]], 49, [(0, (.own 0)), (1, .v), (2, (.fn 178 [] [])), (8, .v), (9, .v)], [⟨0, 0, .row true 68 [.b (.int .u32), .s 22 [.int .u32], .b .bool, .b .bool]⟩]⟩)], slices_BinarySearchFunc___b3⟩
noncomputable def slices_BinarySearchFunc___i : Pat := ⟨[.b (.int .u32), .r [.b (.int .u32), .s 22 [.int .u32], .b .bool, .b .bool]], 49, [(0, (.own 0)), (1, .v), (2, (.fn 178 [] []))], [⟨0, 0, .row true 68 [.b (.int .u32), .s 22 [.int .u32], .b .bool, .b .bool]⟩]⟩
noncomputable def slices_BinarySearchFunc___o : Exits := [(.ret, ⟨[.b (.int .i64), .b .bool, .r [.b (.int .u32), .s 22 [.int .u32], .b .bool, .b .bool]], 49, [(6, .v), (7, .v)], [⟨0, 0, .row true 68 [.b (.int .u32), .s 22 [.int .u32], .b .bool, .b .bool]⟩]⟩)]
noncomputable def slices_BinarySearchFunc___s : TSum := TSum.of (baseC (fun _ => none) (fun _ => [])) (Go.Proofs.Tryz.f177.results.toList) 1 slices_BinarySearchFunc___i slices_BinarySearchFunc___o (fun v => slices_BinarySearchFunc__ v.1 v.2)
noncomputable def slices_BinarySearchFunc___z : Code := Option.getD Go.Proofs.Tryz.f177.body .skip
noncomputable def slices_BinarySearchFunc___x (gl : Glob) : TCtx := { baseC gl (lookS [(178, [tables_Tables_line_1_s])]) with inl := lookI [], fuel := 0, loops := lookL [(3, slices_BinarySearchFunc___l3)], cuts := lookL [] }
theorem slices_BinarySearchFunc___v {gl : Glob} (hg : Gs gl) : ValidS Go.Proofs.Tryz.prog gl 177 slices_BinarySearchFunc___s := by
  refine validS_of (c := slices_BinarySearchFunc___x gl) ?_ hm_ Go.Proofs.Tryz.func177 (body := slices_BinarySearchFunc___z) ?_ ?_ ?_ ?_ ?_ ?_ ?_ ?_ ?_
  · exact tok_of tyB_ok cmpB_ok (.cons (.cons (tables_Tables_line_1_v hg) .nil) (hb_ 178 Go.Proofs.Tryz.func178 (by kernel_rfl) (by kernel_rfl)) .nil) .nil
  · kernel_rfl
  · rfl
  · exact annOK_by (l := [∀ v, slices_BinarySearchFunc___l3.body v = (roundT (slices_BinarySearchFunc___x gl) slices_BinarySearchFunc___l3.pat slices_BinarySearchFunc___l3.exits (subAt [1, 1, 1, 0, 0, 0] slices_BinarySearchFunc___z) v).run]) (by kernel_rfl) (⟨fun (a0, a1, a2, a3, a4) => Eq.symm (by kernel_rfl), trivial⟩)
  · exact fun (a0, a1) => Eq.symm (by kernel_rfl)
  · kernel_rfl
  · kernel_rfl
  · exact exitX_of (.cons (fun v => by kernel_rfl) .nil)
  · rfl
  · rfl
/-! (*sabretache/tables.Tables).line -/
noncomputable def tables_Tables_line_i : Pat := ⟨[.b (.int .u32), .b .bool, .r [.b (.int .u32), .b (.int .u32), .b .str, .b .str, .b .str, .b .bool], .r [.b (.int .u32), .b (.int .u32), .b (.int .u32)], .r [.b (.int .u32), .s 22 [.int .u32], .b .bool, .b .bool], .r [.b (.int .u32), .b (.int .u32), .b (.int .u32)], .r [.b (.int .u32), .b (.int .u32), .b (.int .u32)], .r [.b .str, .b (.int .u32), .b (.int .u32)]], 43, [(0, (.ptr 0 0)), (1, .v), (2, .v)], [⟨0, 0, .cells [(.own 1), (.own 2), (.own 3), (.own 4), (.own 5), (.own 6)]⟩, ⟨1, 0, .row true 98 [.b (.int .u32), .b (.int .u32), .b .str, .b .str, .b .str, .b .bool]⟩, ⟨2, 0, .row true 85 [.b (.int .u32), .b (.int .u32), .b (.int .u32)]⟩, ⟨3, 0, .row true 68 [.b (.int .u32), .s 22 [.int .u32], .b .bool, .b .bool]⟩, ⟨4, 0, .row true 87 [.b (.int .u32), .b (.int .u32), .b (.int .u32)]⟩, ⟨5, 0, .row true 87 [.b (.int .u32), .b (.int .u32), .b (.int .u32)]⟩, ⟨6, 0, .row true 100 [.b .str, .b (.int .u32), .b (.int .u32)]⟩]⟩
noncomputable def tables_Tables_line_o : Exits := [(.ret, ⟨[.b .bool, .b (.int .u32), .b .bool, .b .bool, .r [.b (.int .u32), .b (.int .u32), .b .str, .b .str, .b .str, .b .bool], .r [.b (.int .u32), .b (.int .u32), .b (.int .u32)], .r [.b (.int .u32), .s 22 [.int .u32], .b .bool, .b .bool], .r [.b (.int .u32), .b (.int .u32), .b (.int .u32)], .r [.b (.int .u32), .b (.int .u32), .b (.int .u32)], .r [.b .str, .b (.int .u32), .b (.int .u32)], .r [.b (.int .u32)]], 43, [(6, (.ptr 106 0)), (7, .v)], [⟨106, 0, .cells [.v, (.own 5000), .v, .v]⟩, ⟨0, 0, .cells [(.own 1), (.own 2), (.own 3), (.own 4), (.own 5), (.own 6)]⟩, ⟨1, 0, .row true 98 [.b (.int .u32), .b (.int .u32), .b .str, .b .str, .b .str, .b .bool]⟩, ⟨2, 0, .row true 85 [.b (.int .u32), .b (.int .u32), .b (.int .u32)]⟩, ⟨3, 0, .row true 68 [.b (.int .u32), .s 22 [.int .u32], .b .bool, .b .bool]⟩, ⟨4, 0, .row true 87 [.b (.int .u32), .b (.int .u32), .b (.int .u32)]⟩, ⟨5, 0, .row true 87 [.b (.int .u32), .b (.int .u32), .b (.int .u32)]⟩, ⟨6, 0, .row true 100 [.b .str, .b (.int .u32), .b (.int .u32)]⟩, ⟨5000, 0, .row false 22 [.b (.int .u32)]⟩]⟩)]
noncomputable def tables_Tables_line_s : TSum := TSum.of (baseC (fun _ => none) (fun _ => [])) (Go.Proofs.Tryz.f137.results.toList) 7 tables_Tables_line_i tables_Tables_line_o (fun v => tables_Tables_line v.1 v.2.1 v.2.2.1 v.2.2.2.1 v.2.2.2.2.1 v.2.2.2.2.2.1 v.2.2.2.2.2.2.1 v.2.2.2.2.2.2.2)
noncomputable def tables_Tables_line_z : Code := Option.getD Go.Proofs.Tryz.f137.body .skip
noncomputable def tables_Tables_line_x (gl : Glob) : TCtx := { baseC gl (lookS [(177, [slices_BinarySearchFunc___s])]) with inl := lookI [], fuel := 0, loops := lookL [], cuts := lookL [] }
theorem tables_Tables_line_v {gl : Glob} (hg : Gs gl) : ValidS Go.Proofs.Tryz.prog gl 137 tables_Tables_line_s := by
  refine validS_of (c := tables_Tables_line_x gl) ?_ hm_ Go.Proofs.Tryz.func137 (body := tables_Tables_line_z) ?_ ?_ ?_ ?_ ?_ ?_ ?_ ?_ ?_
  · exact tok_of tyB_ok cmpB_ok (.cons (.cons (slices_BinarySearchFunc___v hg) .nil) (hb_ 177 Go.Proofs.Tryz.func177 (by kernel_rfl) (by kernel_rfl)) .nil) .nil
  · kernel_rfl
  · rfl
  · exact annOK_by (l := []) (by kernel_rfl) (trivial)
  · exact fun (a0, a1, a2, a3, a4, a5, a6, a7) => Eq.symm (by kernel_rfl)
  · kernel_rfl
  · kernel_rfl
  · exact exitX_of (.cons (fun v => by kernel_rfl) .nil)
  · rfl
  · rfl
/-! (*sabretache/tables.Tables).full -/
noncomputable def tables_Tables_full_l6 (tables_Tables_full_rec : Int → Bool → (List (Int × Int × ByteArray × ByteArray × ByteArray × Bool)) → (List (Int × Int × Int)) → (List (Int × List (Int) × Bool × Bool)) → (List (Int × Int × Int)) → (List (Int × Int × Int)) → (List (ByteArray × Int × Int)) → Option ((List (Int) × List (Int × Int × ByteArray × ByteArray × ByteArray × Bool) × List (Int × Int × Int) × List (Int × List (Int) × Bool × Bool) × List (Int × Int × Int) × List (Int × Int × Int) × List (ByteArray × Int × Int)))) : Loop1 := ⟨⟨[.b .bool, .b (.int .i64), .b (.int .i64), .r [.b (.int .u32)], .r [.b (.int .u32), .b (.int .u32), .b .str, .b .str, .b .str, .b .bool], .r [.b (.int .u32), .b (.int .u32), .b (.int .u32)], .r [.b (.int .u32), .s 22 [.int .u32], .b .bool, .b .bool], .r [.b (.int .u32), .b (.int .u32), .b (.int .u32)], .r [.b (.int .u32), .b (.int .u32), .b (.int .u32)], .r [.b .str, .b (.int .u32), .b (.int .u32)], .r [.b (.int .u32)]], 38, [(0, (.ptr 0 0)), (2, .v), (9, (.own 5000)), (24, (.own 1160)), (25, .v), (26, .v)], [⟨0, 0, .cells [(.own 1), (.own 2), (.own 3), (.own 4), (.own 5), (.own 6)]⟩, ⟨1160, 0, .row false 22 [.b (.int .u32)]⟩, ⟨1, 0, .row true 98 [.b (.int .u32), .b (.int .u32), .b .str, .b .str, .b .str, .b .bool]⟩, ⟨2, 0, .row true 85 [.b (.int .u32), .b (.int .u32), .b (.int .u32)]⟩, ⟨3, 0, .row true 68 [.b (.int .u32), .s 22 [.int .u32], .b .bool, .b .bool]⟩, ⟨4, 0, .row true 87 [.b (.int .u32), .b (.int .u32), .b (.int .u32)]⟩, ⟨5, 0, .row true 87 [.b (.int .u32), .b (.int .u32), .b (.int .u32)]⟩, ⟨6, 0, .row true 100 [.b .str, .b (.int .u32), .b (.int .u32)]⟩, ⟨5000, 0, .row true 22 [.b (.int .u32)]⟩]⟩, [(.exit 0, ⟨[.r [.b (.int .u32)], .r [.b (.int .u32), .b (.int .u32), .b .str, .b .str, .b .str, .b .bool], .r [.b (.int .u32), .b (.int .u32), .b (.int .u32)], .r [.b (.int .u32), .s 22 [.int .u32], .b .bool, .b .bool], .r [.b (.int .u32), .b (.int .u32), .b (.int .u32)], .r [.b (.int .u32), .b (.int .u32), .b (.int .u32)], .r [.b .str, .b (.int .u32), .b (.int .u32)]], 38, [(9, (.own 5000))], [⟨5000, 0, .row true 22 [.b (.int .u32)]⟩, ⟨0, 0, .cells [(.own 1), (.own 2), (.own 3), (.own 4), (.own 5), (.own 6)]⟩, ⟨1, 0, .row true 98 [.b (.int .u32), .b (.int .u32), .b .str, .b .str, .b .str, .b .bool]⟩, ⟨2, 0, .row true 85 [.b (.int .u32), .b (.int .u32), .b (.int .u32)]⟩, ⟨3, 0, .row true 68 [.b (.int .u32), .s 22 [.int .u32], .b .bool, .b .bool]⟩, ⟨4, 0, .row true 87 [.b (.int .u32), .b (.int .u32), .b (.int .u32)]⟩, ⟨5, 0, .row true 87 [.b (.int .u32), .b (.int .u32), .b (.int .u32)]⟩, ⟨6, 0, .row true 100 [.b .str, .b (.int .u32), .b (.int .u32)]⟩]⟩)], tables_Tables_full_b6 tables_Tables_full_rec⟩
noncomputable def tables_Tables_full_i : Pat := ⟨[.b (.int .u32), .b .bool, .r [.b (.int .u32), .b (.int .u32), .b .str, .b .str, .b .str, .b .bool], .r [.b (.int .u32), .b (.int .u32), .b (.int .u32)], .r [.b (.int .u32), .s 22 [.int .u32], .b .bool, .b .bool], .r [.b (.int .u32), .b (.int .u32), .b (.int .u32)], .r [.b (.int .u32), .b (.int .u32), .b (.int .u32)], .r [.b .str, .b (.int .u32), .b (.int .u32)]], 38, [(0, (.ptr 0 0)), (1, .v), (2, .v)], [⟨0, 0, .cells [(.own 1), (.own 2), (.own 3), (.own 4), (.own 5), (.own 6)]⟩, ⟨1, 0, .row true 98 [.b (.int .u32), .b (.int .u32), .b .str, .b .str, .b .str, .b .bool]⟩, ⟨2, 0, .row true 85 [.b (.int .u32), .b (.int .u32), .b (.int .u32)]⟩, ⟨3, 0, .row true 68 [.b (.int .u32), .s 22 [.int .u32], .b .bool, .b .bool]⟩, ⟨4, 0, .row true 87 [.b (.int .u32), .b (.int .u32), .b (.int .u32)]⟩, ⟨5, 0, .row true 87 [.b (.int .u32), .b (.int .u32), .b (.int .u32)]⟩, ⟨6, 0, .row true 100 [.b .str, .b (.int .u32), .b (.int .u32)]⟩]⟩
noncomputable def tables_Tables_full_o : Exits := [(.ret, ⟨[.r [.b (.int .u32)], .r [.b (.int .u32), .b (.int .u32), .b .str, .b .str, .b .str, .b .bool], .r [.b (.int .u32), .b (.int .u32), .b (.int .u32)], .r [.b (.int .u32), .s 22 [.int .u32], .b .bool, .b .bool], .r [.b (.int .u32), .b (.int .u32), .b (.int .u32)], .r [.b (.int .u32), .b (.int .u32), .b (.int .u32)], .r [.b .str, .b (.int .u32), .b (.int .u32)]], 38, [(6, (.own 122))], [⟨122, 0, .row true 22 [.b (.int .u32)]⟩, ⟨0, 0, .cells [(.own 1), (.own 2), (.own 3), (.own 4), (.own 5), (.own 6)]⟩, ⟨1, 0, .row true 98 [.b (.int .u32), .b (.int .u32), .b .str, .b .str, .b .str, .b .bool]⟩, ⟨2, 0, .row true 85 [.b (.int .u32), .b (.int .u32), .b (.int .u32)]⟩, ⟨3, 0, .row true 68 [.b (.int .u32), .s 22 [.int .u32], .b .bool, .b .bool]⟩, ⟨4, 0, .row true 87 [.b (.int .u32), .b (.int .u32), .b (.int .u32)]⟩, ⟨5, 0, .row true 87 [.b (.int .u32), .b (.int .u32), .b (.int .u32)]⟩, ⟨6, 0, .row true 100 [.b .str, .b (.int .u32), .b (.int .u32)]⟩]⟩)]
noncomputable def tables_Tables_full_sr (tables_Tables_full_rec : Int → Bool → (List (Int × Int × ByteArray × ByteArray × ByteArray × Bool)) → (List (Int × Int × Int)) → (List (Int × List (Int) × Bool × Bool)) → (List (Int × Int × Int)) → (List (Int × Int × Int)) → (List (ByteArray × Int × Int)) → Option ((List (Int) × List (Int × Int × ByteArray × ByteArray × ByteArray × Bool) × List (Int × Int × Int) × List (Int × List (Int) × Bool × Bool) × List (Int × Int × Int) × List (Int × Int × Int) × List (ByteArray × Int × Int)))) : TSum := TSum.of (baseC (fun _ => none) (fun _ => [])) (Go.Proofs.Tryz.f71.results.toList) 7 tables_Tables_full_i tables_Tables_full_o (fun v => tables_Tables_full_rec v.1 v.2.1 v.2.2.1 v.2.2.2.1 v.2.2.2.2.1 v.2.2.2.2.2.1 v.2.2.2.2.2.2.1 v.2.2.2.2.2.2.2)
noncomputable def tables_Tables_full_z : Code := Option.getD Go.Proofs.Tryz.f71.body .skip
noncomputable def tables_Tables_full_x (gl : Glob) (tables_Tables_full_rec : Int → Bool → (List (Int × Int × ByteArray × ByteArray × ByteArray × Bool)) → (List (Int × Int × Int)) → (List (Int × List (Int) × Bool × Bool)) → (List (Int × Int × Int)) → (List (Int × Int × Int)) → (List (ByteArray × Int × Int)) → Option ((List (Int) × List (Int × Int × ByteArray × ByteArray × ByteArray × Bool) × List (Int × Int × Int) × List (Int × List (Int) × Bool × Bool) × List (Int × Int × Int) × List (Int × Int × Int) × List (ByteArray × Int × Int)))) : TCtx := { baseC gl (lookS [(71, [(tables_Tables_full_sr tables_Tables_full_rec)]), (137, [tables_Tables_line_s])]) with inl := lookI [], fuel := 0, loops := lookL [(6, (tables_Tables_full_l6 tables_Tables_full_rec))], cuts := lookL [] }
theorem tables_Tables_full_vr {gl : Glob} (hg : Gs gl) (tables_Tables_full_rec : Int → Bool → (List (Int × Int × ByteArray × ByteArray × ByteArray × Bool)) → (List (Int × Int × Int)) → (List (Int × List (Int) × Bool × Bool)) → (List (Int × Int × Int)) → (List (Int × Int × Int)) → (List (ByteArray × Int × Int)) → Option ((List (Int) × List (Int × Int × ByteArray × ByteArray × ByteArray × Bool) × List (Int × Int × Int) × List (Int × List (Int) × Bool × Bool) × List (Int × Int × Int) × List (Int × Int × Int) × List (ByteArray × Int × Int)))) (ih : ValidS Go.Proofs.Tryz.prog gl 71 (tables_Tables_full_sr tables_Tables_full_rec)) : ValidS Go.Proofs.Tryz.prog gl 71 (tables_Tables_full_sr (tables_Tables_full_r tables_Tables_full_rec)) := by
  refine validS_of (c := tables_Tables_full_x gl tables_Tables_full_rec) ?_ hm_ Go.Proofs.Tryz.func71 (body := tables_Tables_full_z) ?_ ?_ ?_ ?_ ?_ ?_ ?_ ?_ ?_
  · exact tok_of tyB_ok cmpB_ok (.cons (.cons ih .nil) (hb_ 71 Go.Proofs.Tryz.func71 (by kernel_rfl) (by kernel_rfl)) (.cons (.cons (tables_Tables_line_v hg) .nil) (hb_ 137 Go.Proofs.Tryz.func137 (by kernel_rfl) (by kernel_rfl)) .nil)) .nil
  · kernel_rfl
  · rfl
  · exact annOK_by (l := [∀ v, (tables_Tables_full_l6 tables_Tables_full_rec).body v = (roundT (tables_Tables_full_x gl tables_Tables_full_rec) (tables_Tables_full_l6 tables_Tables_full_rec).pat (tables_Tables_full_l6 tables_Tables_full_rec).exits (subAt [1, 1, 1, 1, 0, 1, 0, 0] tables_Tables_full_z) v).run]) (by kernel_rfl) (⟨fun (a0, a1, a2, a3, a4, a5, a6, a7, a8, a9, a10) => Eq.symm (by kernel_rfl), trivial⟩)
  · exact fun (a0, a1, a2, a3, a4, a5, a6, a7) => Eq.symm (by kernel_rfl)
  · kernel_rfl
  · kernel_rfl
  · exact exitX_of (.cons (fun v => by kernel_rfl) .nil)
  · rfl
  · rfl
theorem tables_Tables_full_vn {gl : Glob} (hg : Gs gl) : ∀ n, ValidS Go.Proofs.Tryz.prog gl 71 (tables_Tables_full_sr (tables_Tables_full_n n))
  | 0 => validS_none (fun v => rfl)
  | n + 1 => tables_Tables_full_vr hg _ (tables_Tables_full_vn hg n)
noncomputable def tables_Tables_full_s : TSum := tables_Tables_full_sr tables_Tables_full
theorem tables_Tables_full_v {gl : Glob} (hg : Gs gl) : ValidS Go.Proofs.Tryz.prog gl 71 tables_Tables_full_s := tables_Tables_full_vn hg 64
/-! (*sabretache/tables.Tables).Full -/
noncomputable def tables_Tables_Full_l5 : Loop1 := ⟨⟨[.b .bool, .b (.int .i64), .b (.int .i64), .r [.b (.int .u32), .s 22 [.int .u32], .b .bool, .b .bool], .r [.b (.int .u32), .b (.int .u32), .b .str, .b .str, .b .str, .b .bool], .r [.b (.int .u32), .b (.int .u32), .b (.int .u32)], .r [.b (.int .u32), .b (.int .u32), .b (.int .u32)], .r [.b (.int .u32), .b (.int .u32), .b (.int .u32)], .r [.b .str, .b (.int .u32), .b (.int .u32)], .r [.b (.int .u32)], .r [.s 22 [.int .u32]]], 50, [(0, (.ptr 0 0)), (1, .v), (4, (.ptr 104 0)), (5, (.ptr 105 0)), (15, (.own 3)), (16, .v), (17, .v)], [⟨0, 0, .cells [(.own 1), (.own 2), (.own 3), (.own 4), (.own 5), (.own 6)]⟩, ⟨104, 0, .cells [(.lit (.slice none 0 0)), (.lit (.slice none 0 0))]⟩, ⟨105, 0, .cells [(.own 5000), (.own 5001)]⟩, ⟨3, 0, .row true 68 [.b (.int .u32), .s 22 [.int .u32], .b .bool, .b .bool]⟩, ⟨1, 0, .row true 98 [.b (.int .u32), .b (.int .u32), .b .str, .b .str, .b .str, .b .bool]⟩, ⟨2, 0, .row true 85 [.b (.int .u32), .b (.int .u32), .b (.int .u32)]⟩, ⟨4, 0, .row true 87 [.b (.int .u32), .b (.int .u32), .b (.int .u32)]⟩, ⟨5, 0, .row true 87 [.b (.int .u32), .b (.int .u32), .b (.int .u32)]⟩, ⟨6, 0, .row true 100 [.b .str, .b (.int .u32), .b (.int .u32)]⟩, ⟨5000, 0, .row true 22 [.b (.int .u32)]⟩, ⟨5001, 0, .row true 33 [.s 22 [.int .u32]]⟩]⟩, [(.exit 0, ⟨[.r [.b (.int .u32), .s 22 [.int .u32], .b .bool, .b .bool], .r [.b (.int .u32), .b (.int .u32), .b .str, .b .str, .b .str, .b .bool], .r [.b (.int .u32), .b (.int .u32), .b (.int .u32)], .r [.b (.int .u32), .b (.int .u32), .b (.int .u32)], .r [.b (.int .u32), .b (.int .u32), .b (.int .u32)], .r [.b .str, .b (.int .u32), .b (.int .u32)], .r [.b (.int .u32)], .r [.s 22 [.int .u32]]], 50, [(4, (.ptr 104 0)), (5, (.ptr 105 0))], [⟨104, 0, .cells [(.lit (.slice none 0 0)), (.lit (.slice none 0 0))]⟩, ⟨105, 0, .cells [(.own 5000), (.own 5001)]⟩, ⟨0, 0, .cells [(.own 1), (.own 2), (.own 3), (.own 4), (.own 5), (.own 6)]⟩, ⟨3, 0, .row true 68 [.b (.int .u32), .s 22 [.int .u32], .b .bool, .b .bool]⟩, ⟨1, 0, .row true 98 [.b (.int .u32), .b (.int .u32), .b .str, .b .str, .b .str, .b .bool]⟩, ⟨2, 0, .row true 85 [.b (.int .u32), .b (.int .u32), .b (.int .u32)]⟩, ⟨4, 0, .row true 87 [.b (.int .u32), .b (.int .u32), .b (.int .u32)]⟩, ⟨5, 0, .row true 87 [.b (.int .u32), .b (.int .u32), .b (.int .u32)]⟩, ⟨6, 0, .row true 100 [.b .str, .b (.int .u32), .b (.int .u32)]⟩, ⟨5000, 0, .row true 22 [.b (.int .u32)]⟩, ⟨5001, 0, .row true 33 [.s 22 [.int .u32]]⟩]⟩)], tables_Tables_Full_b5⟩
noncomputable def tables_Tables_Full_i : Pat := ⟨[.b .bool, .r [.b (.int .u32), .b (.int .u32), .b .str, .b .str, .b .str, .b .bool], .r [.b (.int .u32), .b (.int .u32), .b (.int .u32)], .r [.b (.int .u32), .s 22 [.int .u32], .b .bool, .b .bool], .r [.b (.int .u32), .b (.int .u32), .b (.int .u32)], .r [.b (.int .u32), .b (.int .u32), .b (.int .u32)], .r [.b .str, .b (.int .u32), .b (.int .u32)]], 50, [(0, (.ptr 0 0)), (1, .v)], [⟨0, 0, .cells [(.own 1), (.own 2), (.own 3), (.own 4), (.own 5), (.own 6)]⟩, ⟨1, 0, .row true 98 [.b (.int .u32), .b (.int .u32), .b .str, .b .str, .b .str, .b .bool]⟩, ⟨2, 0, .row true 85 [.b (.int .u32), .b (.int .u32), .b (.int .u32)]⟩, ⟨3, 0, .row true 68 [.b (.int .u32), .s 22 [.int .u32], .b .bool, .b .bool]⟩, ⟨4, 0, .row true 87 [.b (.int .u32), .b (.int .u32), .b (.int .u32)]⟩, ⟨5, 0, .row true 87 [.b (.int .u32), .b (.int .u32), .b (.int .u32)]⟩, ⟨6, 0, .row true 100 [.b .str, .b (.int .u32), .b (.int .u32)]⟩]⟩
noncomputable def tables_Tables_Full_o : Exits := [(.ret, ⟨[.r [.b (.int .u32), .s 22 [.int .u32], .b .bool, .b .bool], .r [.b (.int .u32), .b (.int .u32), .b .str, .b .str, .b .str, .b .bool], .r [.b (.int .u32), .b (.int .u32), .b (.int .u32)], .r [.b (.int .u32), .b (.int .u32), .b (.int .u32)], .r [.b (.int .u32), .b (.int .u32), .b (.int .u32)], .r [.b .str, .b (.int .u32), .b (.int .u32)], .r [.b (.int .u32)], .r [.s 22 [.int .u32]]], 50, [(4, (.ptr 104 0))], [⟨104, 0, .cells [(.own 5000), (.own 5001)]⟩, ⟨0, 0, .cells [(.own 1), (.own 2), (.own 3), (.own 4), (.own 5), (.own 6)]⟩, ⟨3, 0, .row true 68 [.b (.int .u32), .s 22 [.int .u32], .b .bool, .b .bool]⟩, ⟨1, 0, .row true 98 [.b (.int .u32), .b (.int .u32), .b .str, .b .str, .b .str, .b .bool]⟩, ⟨2, 0, .row true 85 [.b (.int .u32), .b (.int .u32), .b (.int .u32)]⟩, ⟨4, 0, .row true 87 [.b (.int .u32), .b (.int .u32), .b (.int .u32)]⟩, ⟨5, 0, .row true 87 [.b (.int .u32), .b (.int .u32), .b (.int .u32)]⟩, ⟨6, 0, .row true 100 [.b .str, .b (.int .u32), .b (.int .u32)]⟩, ⟨5000, 0, .row true 22 [.b (.int .u32)]⟩, ⟨5001, 0, .row true 33 [.s 22 [.int .u32]]⟩]⟩)]
noncomputable def tables_Tables_Full_s : TSum := TSum.of (baseC (fun _ => none) (fun _ => [])) (Go.Proofs.Tryz.f17.results.toList) 7 tables_Tables_Full_i tables_Tables_Full_o (fun v => tables_Tables_Full v.1 v.2.1 v.2.2.1 v.2.2.2.1 v.2.2.2.2.1 v.2.2.2.2.2.1 v.2.2.2.2.2.2)
noncomputable def tables_Tables_Full_z : Code := Option.getD Go.Proofs.Tryz.f17.body .skip
noncomputable def tables_Tables_Full_x (gl : Glob) : TCtx := { baseC gl (lookS [(71, [tables_Tables_full_s])]) with inl := lookI [], fuel := 0, loops := lookL [(5, tables_Tables_Full_l5)], cuts := lookL [] }
theorem tables_Tables_Full_v {gl : Glob} (hg : Gs gl) : ValidS Go.Proofs.Tryz.prog gl 17 tables_Tables_Full_s := by
  refine validS_of (c := tables_Tables_Full_x gl) ?_ hm_ Go.Proofs.Tryz.func17 (body := tables_Tables_Full_z) ?_ ?_ ?_ ?_ ?_ ?_ ?_ ?_ ?_
  · exact tok_of tyB_ok cmpB_ok (.cons (.cons (tables_Tables_full_v hg) .nil) (hb_ 71 Go.Proofs.Tryz.func71 (by kernel_rfl) (by kernel_rfl)) .nil) .nil
  · kernel_rfl
  · rfl
  · exact annOK_by (l := [∀ v, tables_Tables_Full_l5.body v = (roundT (tables_Tables_Full_x gl) tables_Tables_Full_l5.pat tables_Tables_Full_l5.exits (subAt [1, 1, 1, 0, 1, 0, 0] tables_Tables_Full_z) v).run]) (by kernel_rfl) (⟨fun (a0, a1, a2, a3, a4, a5, a6, a7, a8, a9, a10) => Eq.symm (by kernel_rfl), trivial⟩)
  · exact fun (a0, a1, a2, a3, a4, a5, a6) => Eq.symm (by kernel_rfl)
  · kernel_rfl
  · kernel_rfl
  · exact exitX_of (.cons (fun v => by kernel_rfl) .nil)
  · rfl
  · rfl
/-! sabretache/sabretachelaw08.awake -/
noncomputable def law08_awake_l3 : Loop1 := ⟨⟨[.b (.int .i64), .b (.int .i64), .r [.b (.int .u32)], .r [.s 22 [.int .u32]]], 54, [(1, (.ptr 101 0)), (7, (.own 1050)), (8, .v), (9, .v)], [⟨101, 0, .cells [(.own 1050), (.own 1051)]⟩, ⟨1050, 0, .row true 22 [.b (.int .u32)]⟩, ⟨1051, 0, .row true 33 [.s 22 [.int .u32]]⟩]⟩, [(.ret, ⟨[.b .bool], 54, [(0, .v)], []⟩), (.exit 0, ⟨[], 54, [], []⟩)], law08_awake_b3⟩
noncomputable def law08_awake_i : Pat := ⟨[], 54, [], []⟩
noncomputable def law08_awake_o : Exits := [(.ret, ⟨[.b .bool], 54, [(0, .v)], []⟩)]
noncomputable def law08_awake_s : TSum := TSum.of (baseC (fun _ => none) (fun _ => [])) (Go.Proofs.Tryz.f14.results.toList) 0 law08_awake_i law08_awake_o (fun v => law08_awake )
noncomputable def law08_awake_z : Code := Option.getD Go.Proofs.Tryz.f14.body .skip
noncomputable def law08_awake_x (gl : Glob) : TCtx := { baseC gl (lookS [(16, [tables_New_s]), (17, [tables_Tables_Full_s])]) with inl := lookI [], fuel := 0, loops := lookL [(3, law08_awake_l3)], cuts := lookL [] }
theorem law08_awake_v {gl : Glob} (hg : Gs gl) : ValidS Go.Proofs.Tryz.prog gl 14 law08_awake_s := by
  refine validS_of (c := law08_awake_x gl) ?_ hm_ Go.Proofs.Tryz.func14 (body := law08_awake_z) ?_ ?_ ?_ ?_ ?_ ?_ ?_ ?_ ?_
  · exact tok_of tyB_ok cmpB_ok (.cons (.cons (tables_New_v hg) .nil) (hb_ 16 Go.Proofs.Tryz.func16 (by kernel_rfl) (by kernel_rfl)) (.cons (.cons (tables_Tables_Full_v hg) .nil) (hb_ 17 Go.Proofs.Tryz.func17 (by kernel_rfl) (by kernel_rfl)) .nil)) .nil
  · kernel_rfl
  · rfl
  · exact annOK_by (l := [∀ v, law08_awake_l3.body v = (roundT (law08_awake_x gl) law08_awake_l3.pat law08_awake_l3.exits (subAt [1, 1, 0, 1, 0, 0] law08_awake_z) v).run]) (by kernel_rfl) (⟨fun (a0, a1, a2, a3) => Eq.symm (by kernel_rfl), trivial⟩)
  · exact fun v => Eq.symm (by kernel_rfl)
  · kernel_rfl
  · kernel_rfl
  · exact exitX_of (.cons (fun v => by kernel_rfl) .nil)
  · rfl
  · rfl
end Go.Tx

/- Printed by the driver (wip/drv): the contracts of Go functions, checked. -/
set_option linter.all false
set_option linter.unusedVariables false
set_option maxRecDepth 100000
set_option maxHeartbeats 0
namespace Go.Tx
open Go Go.Sx
/-! sabretache/sabretacheref07.Split -/
noncomputable def ref07_Split_l3 : Loop1 := ⟨⟨[.b .str, .b (.int .u8), .b (.int .i64), .r [.b .str]], 40, [(0, .v), (1, .v), (5, (.own 108)), (6, .v)], [⟨108, 0, .row true 9 [.b .str]⟩]⟩, [(.exit 0, ⟨[.r [.b .str]], 40, [(5, (.own 108))], [⟨108, 0, .row true 9 [.b .str]⟩]⟩)], ref07_Split_b3⟩
noncomputable def ref07_Split_i : Pat := ⟨[.b .str, .b (.int .u8)], 40, [(0, .v), (1, .v)], []⟩
noncomputable def ref07_Split_o : Exits := [(.ret, ⟨[.r [.b .str]], 40, [(4, (.own 108))], [⟨108, 0, .row true 9 [.b .str]⟩]⟩)]
noncomputable def ref07_Split_s : TSum := TSum.of (baseC (fun _ => none) (fun _ => [])) (Go.Proofs.Tryz.f165.results.toList) 0 ref07_Split_i ref07_Split_o (fun v => ref07_Split v.1 v.2)
noncomputable def ref07_Split_z : Code := Option.getD Go.Proofs.Tryz.f165.body .skip
noncomputable def ref07_Split_x (gl : Glob) : TCtx := { baseC gl (lookS []) with inl := lookI [], fuel := 0, loops := lookL [(3, ref07_Split_l3)], cuts := lookL [] }
theorem ref07_Split_v {gl : Glob} (hg : Gs gl) : ValidS Go.Proofs.Tryz.prog gl 165 ref07_Split_s := by
  refine validS_of (c := ref07_Split_x gl) ?_ hm_ Go.Proofs.Tryz.func165 (body := ref07_Split_z) ?_ ?_ ?_ ?_ ?_ ?_ ?_ ?_ ?_
  · exact tok_of tyB_ok cmpB_ok .nil .nil
  · kernel_rfl
  · rfl
  · exact annOK_by (l := [∀ v, ref07_Split_l3.body v = (roundT (ref07_Split_x gl) ref07_Split_l3.pat ref07_Split_l3.exits (subAt [1, 1, 0, 1, 0, 0] ref07_Split_z) v).run]) (by kernel_rfl) (⟨fun (a0, a1, a2, a3) => Eq.symm (by kernel_rfl), trivial⟩)
  · exact fun (a0, a1) => Eq.symm (by kernel_rfl)
  · kernel_rfl
  · kernel_rfl
  · exact exitX_of (.cons (fun v => by kernel_rfl) .nil)
  · rfl
  · rfl
/-! sabretache/sabretacheref07.Lines -/
noncomputable def ref07_Lines_l6 : Loop1 := ⟨⟨[.b (.int .i64), .r [.b .str], .r [.s 9 [.str]]], 26, [(3, (.own 5000)), (4, (.own 1100)), (5, .v)], [⟨1100, 0, .row true 9 [.b .str]⟩, ⟨5000, 0, .row true 113 [.s 9 [.str]]⟩]⟩, [(.exit 0, ⟨[.r [.s 9 [.str]]], 26, [(3, (.own 5000))], [⟨5000, 0, .row true 113 [.s 9 [.str]]⟩]⟩)], ref07_Lines_b6⟩
noncomputable def ref07_Lines_i : Pat := ⟨[.b .str], 26, [(0, .v)], []⟩
noncomputable def ref07_Lines_o : Exits := [(.ret, ⟨[.r [.s 9 [.str]]], 26, [(2, (.own 5000))], [⟨5000, 0, .row true 113 [.s 9 [.str]]⟩]⟩)]
noncomputable def ref07_Lines_s : TSum := TSum.of (baseC (fun _ => none) (fun _ => [])) (Go.Proofs.Tryz.f102.results.toList) 0 ref07_Lines_i ref07_Lines_o (fun v => ref07_Lines v)
noncomputable def ref07_Lines_z : Code := Option.getD Go.Proofs.Tryz.f102.body .skip
noncomputable def ref07_Lines_x (gl : Glob) : TCtx := { baseC gl (lookS [(165, [ref07_Split_s])]) with inl := lookI [], fuel := 0, loops := lookL [(6, ref07_Lines_l6)], cuts := lookL [] }
theorem ref07_Lines_v {gl : Glob} (hg : Gs gl) : ValidS Go.Proofs.Tryz.prog gl 102 ref07_Lines_s := by
  refine validS_of (c := ref07_Lines_x gl) ?_ hm_ Go.Proofs.Tryz.func102 (body := ref07_Lines_z) ?_ ?_ ?_ ?_ ?_ ?_ ?_ ?_ ?_
  · exact tok_of tyB_ok cmpB_ok (.cons (.cons (ref07_Split_v hg) .nil) (hb_ 165 Go.Proofs.Tryz.func165 (by kernel_rfl) (by kernel_rfl)) .nil) .nil
  · kernel_rfl
  · rfl
  · exact annOK_by (l := [∀ v, ref07_Lines_l6.body v = (roundT (ref07_Lines_x gl) ref07_Lines_l6.pat ref07_Lines_l6.exits (subAt [1, 1, 1, 1, 0, 1, 0, 0] ref07_Lines_z) v).run]) (by kernel_rfl) (⟨fun (a0, a1, a2) => Eq.symm (by kernel_rfl), trivial⟩)
  · exact fun v => Eq.symm (by kernel_rfl)
  · kernel_rfl
  · kernel_rfl
  · exact exitX_of (.cons (fun v => by kernel_rfl) .nil)
  · rfl
  · rfl
/-! sabretache/sabretacheref07.digit -/
noncomputable def ref07_digit_i : Pat := ⟨[.b (.int .u8)], 22, [(0, .v)], []⟩
noncomputable def ref07_digit_o : Exits := [(.ret, ⟨[.b (.int .i64)], 22, [(2, .v)], []⟩)]
noncomputable def ref07_digit_s : TSum := TSum.of (baseC (fun _ => none) (fun _ => [])) (Go.Proofs.Tryz.f168.results.toList) 0 ref07_digit_i ref07_digit_o (fun v => ref07_digit v)
noncomputable def ref07_digit_z : Code := Option.getD Go.Proofs.Tryz.f168.body .skip
noncomputable def ref07_digit_x (gl : Glob) : TCtx := { baseC gl (lookS []) with inl := lookI [], fuel := 0, loops := lookL [], cuts := lookL [] }
theorem ref07_digit_v {gl : Glob} (hg : Gs gl) : ValidS Go.Proofs.Tryz.prog gl 168 ref07_digit_s := by
  refine validS_of (c := ref07_digit_x gl) ?_ hm_ Go.Proofs.Tryz.func168 (body := ref07_digit_z) ?_ ?_ ?_ ?_ ?_ ?_ ?_ ?_ ?_
  · exact tok_of tyB_ok cmpB_ok .nil .nil
  · kernel_rfl
  · rfl
  · exact annOK_by (l := []) (by kernel_rfl) (trivial)
  · exact fun v => Eq.symm (by kernel_rfl)
  · kernel_rfl
  · kernel_rfl
  · exact exitX_of (.cons (fun v => by kernel_rfl) .nil)
  · rfl
  · rfl
/-! sabretache/sabretacheref07.Point -/
noncomputable def ref07_Point_l5 : Loop1 := ⟨⟨[.b .str, .b (.int .i64), .b (.int .i64)], 43, [(0, .v), (3, .v), (4, .v)], []⟩, [(.exit 0, ⟨[.b (.int .i64)], 43, [(3, .v)], []⟩), (.ret, ⟨[.b (.int .i64)], 43, [(2, .v)], []⟩)], ref07_Point_b5⟩
noncomputable def ref07_Point_i : Pat := ⟨[.b .str], 43, [(0, .v)], []⟩
noncomputable def ref07_Point_o : Exits := [(.ret, ⟨[.b (.int .i64)], 43, [(2, .v)], []⟩)]
noncomputable def ref07_Point_s : TSum := TSum.of (baseC (fun _ => none) (fun _ => [])) (Go.Proofs.Tryz.f110.results.toList) 0 ref07_Point_i ref07_Point_o (fun v => ref07_Point v)
noncomputable def ref07_Point_z : Code := Option.getD Go.Proofs.Tryz.f110.body .skip
noncomputable def ref07_Point_x (gl : Glob) : TCtx := { baseC gl (lookS [(168, [ref07_digit_s])]) with inl := lookI [], fuel := 0, loops := lookL [(5, ref07_Point_l5)], cuts := lookL [] }
theorem ref07_Point_v {gl : Glob} (hg : Gs gl) : ValidS Go.Proofs.Tryz.prog gl 110 ref07_Point_s := by
  refine validS_of (c := ref07_Point_x gl) ?_ hm_ Go.Proofs.Tryz.func110 (body := ref07_Point_z) ?_ ?_ ?_ ?_ ?_ ?_ ?_ ?_ ?_
  · exact tok_of tyB_ok cmpB_ok (.cons (.cons (ref07_digit_v hg) .nil) (hb_ 168 Go.Proofs.Tryz.func168 (by kernel_rfl) (by kernel_rfl)) .nil) .nil
  · kernel_rfl
  · rfl
  · exact annOK_by (l := [∀ v, ref07_Point_l5.body v = (roundT (ref07_Point_x gl) ref07_Point_l5.pat ref07_Point_l5.exits (subAt [1, 1, 1, 0, 1, 0, 0] ref07_Point_z) v).run]) (by kernel_rfl) (⟨fun (a0, a1, a2) => Eq.symm (by kernel_rfl), trivial⟩)
  · exact fun v => Eq.symm (by kernel_rfl)
  · kernel_rfl
  · kernel_rfl
  · exact exitX_of (.cons (fun v => by kernel_rfl) .nil)
  · rfl
  · rfl
/-! sabretache/sabretacheref07.span -/
noncomputable def ref07_span_i : Pat := ⟨[.b .str, .b .str], 29, [(0, .v), (1, .v)], []⟩
noncomputable def ref07_span_o : Exits := [(.ret, ⟨[.b .bool, .b (.int .u32), .b (.int .u32)], 29, [(4, (.ptr 104 0)), (5, .v)], [⟨104, 0, .cells [.v, .v]⟩]⟩)]
noncomputable def ref07_span_s : TSum := TSum.of (baseC (fun _ => none) (fun _ => [])) (Go.Proofs.Tryz.f103.results.toList) 0 ref07_span_i ref07_span_o (fun v => ref07_span v.1 v.2)
noncomputable def ref07_span_z : Code := Option.getD Go.Proofs.Tryz.f103.body .skip
noncomputable def ref07_span_x (gl : Glob) : TCtx := { baseC gl (lookS [(110, [ref07_Point_s])]) with inl := lookI [], fuel := 0, loops := lookL [], cuts := lookL [] }
theorem ref07_span_v {gl : Glob} (hg : Gs gl) : ValidS Go.Proofs.Tryz.prog gl 103 ref07_span_s := by
  refine validS_of (c := ref07_span_x gl) ?_ hm_ Go.Proofs.Tryz.func103 (body := ref07_span_z) ?_ ?_ ?_ ?_ ?_ ?_ ?_ ?_ ?_
  · exact tok_of tyB_ok cmpB_ok (.cons (.cons (ref07_Point_v hg) .nil) (hb_ 110 Go.Proofs.Tryz.func110 (by kernel_rfl) (by kernel_rfl)) .nil) .nil
  · kernel_rfl
  · rfl
  · exact annOK_by (l := []) (by kernel_rfl) (trivial)
  · exact fun (a0, a1) => Eq.symm (by kernel_rfl)
  · kernel_rfl
  · kernel_rfl
  · exact exitX_of (.cons (fun v => by kernel_rfl) .nil)
  · rfl
  · rfl
/-! sabretache/sabretacheref07.all -/
noncomputable def ref07_all_l2 : Loop1 := ⟨⟨[.b .str, .b (.int .u8), .b (.int .u8), .b (.int .i64), .b (.int .i64), .b (.int .i64)], 40, [(0, .v), (1, .v), (2, .v), (3, .v), (4, .v), (11, .v)], []⟩, [(.ret, ⟨[.b .bool], 40, [(10, .v)], []⟩), (.exit 0, ⟨[.b .str, .b (.int .i64), .b (.int .i64)], 40, [(0, .v), (3, .v), (4, .v)], []⟩)], ref07_all_b2⟩
noncomputable def ref07_all_i : Pat := ⟨[.b .str, .b (.int .u8), .b (.int .u8), .b (.int .i64), .b (.int .i64)], 40, [(0, .v), (1, .v), (2, .v), (3, .v), (4, .v)], []⟩
noncomputable def ref07_all_o : Exits := [(.ret, ⟨[.b .bool], 40, [(10, .v)], []⟩)]
noncomputable def ref07_all_s : TSum := TSum.of (baseC (fun _ => none) (fun _ => [])) (Go.Proofs.Tryz.f115.results.toList) 0 ref07_all_i ref07_all_o (fun v => ref07_all v.1 v.2.1 v.2.2.1 v.2.2.2.1 v.2.2.2.2)
noncomputable def ref07_all_z : Code := Option.getD Go.Proofs.Tryz.f115.body .skip
noncomputable def ref07_all_x (gl : Glob) : TCtx := { baseC gl (lookS []) with inl := lookI [], fuel := 0, loops := lookL [(2, ref07_all_l2)], cuts := lookL [] }
theorem ref07_all_v {gl : Glob} (hg : Gs gl) : ValidS Go.Proofs.Tryz.prog gl 115 ref07_all_s := by
  refine validS_of (c := ref07_all_x gl) ?_ hm_ Go.Proofs.Tryz.func115 (body := ref07_all_z) ?_ ?_ ?_ ?_ ?_ ?_ ?_ ?_ ?_
  · exact tok_of tyB_ok cmpB_ok .nil .nil
  · kernel_rfl
  · rfl
  · exact annOK_by (l := [∀ v, ref07_all_l2.body v = (roundT (ref07_all_x gl) ref07_all_l2.pat ref07_all_l2.exits (subAt [1, 0, 1, 0, 0] ref07_all_z) v).run]) (by kernel_rfl) (⟨fun (a0, a1, a2, a3, a4, a5) => Eq.symm (by kernel_rfl), trivial⟩)
  · exact fun (a0, a1, a2, a3, a4) => Eq.symm (by kernel_rfl)
  · kernel_rfl
  · kernel_rfl
  · exact exitX_of (.cons (fun v => by kernel_rfl) .nil)
  · rfl
  · rfl
/-! sabretache/sabretacheref07.number -/
noncomputable def ref07_number_l5 : Loop1 := ⟨⟨[.b .str, .b (.int .i64), .b (.int .i64)], 30, [(0, .v), (3, .v), (4, .v)], []⟩, [(.exit 0, ⟨[.b (.int .i64)], 30, [(3, .v)], []⟩)], ref07_number_b5⟩
noncomputable def ref07_number_i : Pat := ⟨[.b .str], 30, [(0, .v)], []⟩
noncomputable def ref07_number_o : Exits := [(.ret, ⟨[.b (.int .i64)], 30, [(2, .v)], []⟩)]
noncomputable def ref07_number_s : TSum := TSum.of (baseC (fun _ => none) (fun _ => [])) (Go.Proofs.Tryz.f104.results.toList) 0 ref07_number_i ref07_number_o (fun v => ref07_number v)
noncomputable def ref07_number_z : Code := Option.getD Go.Proofs.Tryz.f104.body .skip
noncomputable def ref07_number_x (gl : Glob) : TCtx := { baseC gl (lookS [(115, [ref07_all_s])]) with inl := lookI [], fuel := 0, loops := lookL [(5, ref07_number_l5)], cuts := lookL [] }
theorem ref07_number_v {gl : Glob} (hg : Gs gl) : ValidS Go.Proofs.Tryz.prog gl 104 ref07_number_s := by
  refine validS_of (c := ref07_number_x gl) ?_ hm_ Go.Proofs.Tryz.func104 (body := ref07_number_z) ?_ ?_ ?_ ?_ ?_ ?_ ?_ ?_ ?_
  · exact tok_of tyB_ok cmpB_ok (.cons (.cons (ref07_all_v hg) .nil) (hb_ 115 Go.Proofs.Tryz.func115 (by kernel_rfl) (by kernel_rfl)) .nil) .nil
  · kernel_rfl
  · rfl
  · exact annOK_by (l := [∀ v, ref07_number_l5.body v = (roundT (ref07_number_x gl) ref07_number_l5.pat ref07_number_l5.exits (subAt [1, 1, 1, 0, 1, 0, 0] ref07_number_z) v).run]) (by kernel_rfl) (⟨fun (a0, a1, a2) => Eq.symm (by kernel_rfl), trivial⟩)
  · exact fun v => Eq.symm (by kernel_rfl)
  · kernel_rfl
  · kernel_rfl
  · exact exitX_of (.cons (fun v => by kernel_rfl) .nil)
  · rfl
  · rfl
/-! sabretache/sabretacheref07.Classes -/
noncomputable def ref07_Classes_l4 : Loop1 := ⟨⟨[.b (.int .i64), .r [.s 9 [.str]], .r [.b (.int .u32), .b (.int .u32), .b (.int .u32)]], 81, [(4, (.own 5000)), (5, (.own 1110)), (6, .v)], [⟨1110, 0, .row true 113 [.s 9 [.str]]⟩, ⟨5000, 0, .row true 85 [.b (.int .u32), .b (.int .u32), .b (.int .u32)]⟩]⟩, [(.ret, ⟨[.b (.int .i64)], 81, [(2, (.lit (.slice none 0 0))), (3, .v)], []⟩), (.exit 0, ⟨[.r [.b (.int .u32), .b (.int .u32), .b (.int .u32)]], 81, [(4, (.own 5000))], [⟨5000, 0, .row true 85 [.b (.int .u32), .b (.int .u32), .b (.int .u32)]⟩]⟩)], ref07_Classes_b4⟩
noncomputable def ref07_Classes_i : Pat := ⟨[.b .str], 81, [(0, .v)], []⟩
noncomputable def ref07_Classes_o : Exits := [(.ret, ⟨[.b (.int .i64), .r [.b (.int .u32), .b (.int .u32), .b (.int .u32)]], 81, [(2, (.own 5000)), (3, .v)], [⟨5000, 0, .row true 85 [.b (.int .u32), .b (.int .u32), .b (.int .u32)]⟩]⟩)]
noncomputable def ref07_Classes_s : TSum := TSum.of (baseC (fun _ => none) (fun _ => [])) (Go.Proofs.Tryz.f45.results.toList) 0 ref07_Classes_i ref07_Classes_o (fun v => ref07_Classes v)
noncomputable def ref07_Classes_z : Code := Option.getD Go.Proofs.Tryz.f45.body .skip
noncomputable def ref07_Classes_x (gl : Glob) : TCtx := { baseC gl (lookS [(102, [ref07_Lines_s]), (103, [ref07_span_s]), (104, [ref07_number_s])]) with inl := lookI [], fuel := 0, loops := lookL [(4, ref07_Classes_l4)], cuts := lookL [] }
theorem ref07_Classes_v {gl : Glob} (hg : Gs gl) : ValidS Go.Proofs.Tryz.prog gl 45 ref07_Classes_s := by
  refine validS_of (c := ref07_Classes_x gl) ?_ hm_ Go.Proofs.Tryz.func45 (body := ref07_Classes_z) ?_ ?_ ?_ ?_ ?_ ?_ ?_ ?_ ?_
  · exact tok_of tyB_ok cmpB_ok (.cons (.cons (ref07_Lines_v hg) .nil) (hb_ 102 Go.Proofs.Tryz.func102 (by kernel_rfl) (by kernel_rfl)) (.cons (.cons (ref07_span_v hg) .nil) (hb_ 103 Go.Proofs.Tryz.func103 (by kernel_rfl) (by kernel_rfl)) (.cons (.cons (ref07_number_v hg) .nil) (hb_ 104 Go.Proofs.Tryz.func104 (by kernel_rfl) (by kernel_rfl)) .nil))) .nil
  · kernel_rfl
  · rfl
  · exact annOK_by (l := [∀ v, ref07_Classes_l4.body v = (roundT (ref07_Classes_x gl) ref07_Classes_l4.pat ref07_Classes_l4.exits (subAt [1, 1, 1, 0, 1, 0, 0] ref07_Classes_z) v).run]) (by kernel_rfl) (⟨fun (a0, a1, a2) => Eq.symm (by kernel_rfl), trivial⟩)
  · exact fun v => Eq.symm (by kernel_rfl)
  · kernel_rfl
  · kernel_rfl
  · exact exitX_of (.cons (fun v => by kernel_rfl) .nil)
  · rfl
  · rfl
/-! sabretache/sabretacheref07.Runs -/
noncomputable def ref07_Runs_l4 : Loop1 := ⟨⟨[.b (.int .i64), .r [.s 9 [.str]], .r [.b (.int .u32), .b (.int .u32), .b (.int .u32)]], 81, [(4, (.own 5000)), (5, (.own 1110)), (6, .v)], [⟨1110, 0, .row true 113 [.s 9 [.str]]⟩, ⟨5000, 0, .row true 87 [.b (.int .u32), .b (.int .u32), .b (.int .u32)]⟩]⟩, [(.ret, ⟨[.b (.int .i64)], 81, [(2, (.lit (.slice none 0 0))), (3, .v)], []⟩), (.exit 0, ⟨[.r [.b (.int .u32), .b (.int .u32), .b (.int .u32)]], 81, [(4, (.own 5000))], [⟨5000, 0, .row true 87 [.b (.int .u32), .b (.int .u32), .b (.int .u32)]⟩]⟩)], ref07_Runs_b4⟩
noncomputable def ref07_Runs_i : Pat := ⟨[.b .str], 81, [(0, .v)], []⟩
noncomputable def ref07_Runs_o : Exits := [(.ret, ⟨[.b (.int .i64), .r [.b (.int .u32), .b (.int .u32), .b (.int .u32)]], 81, [(2, (.own 5000)), (3, .v)], [⟨5000, 0, .row true 87 [.b (.int .u32), .b (.int .u32), .b (.int .u32)]⟩]⟩)]
noncomputable def ref07_Runs_s : TSum := TSum.of (baseC (fun _ => none) (fun _ => [])) (Go.Proofs.Tryz.f47.results.toList) 0 ref07_Runs_i ref07_Runs_o (fun v => ref07_Runs v)
noncomputable def ref07_Runs_z : Code := Option.getD Go.Proofs.Tryz.f47.body .skip
noncomputable def ref07_Runs_x (gl : Glob) : TCtx := { baseC gl (lookS [(102, [ref07_Lines_s]), (110, [ref07_Point_s]), (103, [ref07_span_s])]) with inl := lookI [], fuel := 0, loops := lookL [(4, ref07_Runs_l4)], cuts := lookL [] }
theorem ref07_Runs_v {gl : Glob} (hg : Gs gl) : ValidS Go.Proofs.Tryz.prog gl 47 ref07_Runs_s := by
  refine validS_of (c := ref07_Runs_x gl) ?_ hm_ Go.Proofs.Tryz.func47 (body := ref07_Runs_z) ?_ ?_ ?_ ?_ ?_ ?_ ?_ ?_ ?_
  · exact tok_of tyB_ok cmpB_ok (.cons (.cons (ref07_Lines_v hg) .nil) (hb_ 102 Go.Proofs.Tryz.func102 (by kernel_rfl) (by kernel_rfl)) (.cons (.cons (ref07_Point_v hg) .nil) (hb_ 110 Go.Proofs.Tryz.func110 (by kernel_rfl) (by kernel_rfl)) (.cons (.cons (ref07_span_v hg) .nil) (hb_ 103 Go.Proofs.Tryz.func103 (by kernel_rfl) (by kernel_rfl)) .nil))) .nil
  · kernel_rfl
  · rfl
  · exact annOK_by (l := [∀ v, ref07_Runs_l4.body v = (roundT (ref07_Runs_x gl) ref07_Runs_l4.pat ref07_Runs_l4.exits (subAt [1, 1, 1, 0, 1, 0, 0] ref07_Runs_z) v).run]) (by kernel_rfl) (⟨fun (a0, a1, a2) => Eq.symm (by kernel_rfl), trivial⟩)
  · exact fun v => Eq.symm (by kernel_rfl)
  · kernel_rfl
  · kernel_rfl
  · exact exitX_of (.cons (fun v => by kernel_rfl) .nil)
  · rfl
  · rfl
end Go.Tx

/- Printed by the driver (wip/drv): the contracts of Go functions, checked. -/
set_option linter.all false
set_option linter.unusedVariables false
set_option maxRecDepth 100000
set_option maxHeartbeats 0
namespace Go.Tx
open Go Go.Sx
/-! sabretache/sabretacheref07.Ranges -/
noncomputable def ref07_Ranges_l4 : Loop1 := ⟨⟨[.b (.int .i64), .r [.s 9 [.str]], .r [.b (.int .u32), .b (.int .u32), .b .str, .b .str, .b .str, .b .bool]], 154, [(4, (.own 5000)), (5, (.own 1110)), (6, .v)], [⟨1110, 0, .row true 113 [.s 9 [.str]]⟩, ⟨5000, 0, .row true 98 [.b (.int .u32), .b (.int .u32), .b .str, .b .str, .b .str, .b .bool]⟩]⟩, [(.exit 0, ⟨[.r [.b (.int .u32), .b (.int .u32), .b .str, .b .str, .b .str, .b .bool]], 154, [(4, (.own 5000))], [⟨5000, 0, .row true 98 [.b (.int .u32), .b (.int .u32), .b .str, .b .str, .b .str, .b .bool]⟩]⟩), (.ret, ⟨[.b (.int .i64)], 154, [(2, (.lit (.slice none 0 0))), (3, .v)], []⟩)], ref07_Ranges_b4⟩
noncomputable def ref07_Ranges_k6 : Cut1 := ⟨⟨[.b (.int .i64), .r [.b (.int .u32), .b (.int .u32), .b .str, .b .str, .b .str, .b .bool], .r [.s 9 [.str]]], 154, [(4, (.own 5000)), (5, (.own 1110)), (6, .v)], [⟨5000, 0, .row true 98 [.b (.int .u32), .b (.int .u32), .b .str, .b .str, .b .str, .b .bool]⟩, ⟨1110, 0, .row true 113 [.s 9 [.str]]⟩]⟩, [(.ret, ⟨[.b (.int .i64)], 154, [(2, (.lit (.slice none 0 0))), (3, .v)], []⟩), (.normal, ⟨[.b (.int .i64), .r [.b (.int .u32), .b (.int .u32), .b .str, .b .str, .b .str, .b .bool], .r [.s 9 [.str]]], 154, [(4, (.own 5000)), (5, (.own 1110)), (6, .v)], [⟨5000, 0, .row true 98 [.b (.int .u32), .b (.int .u32), .b .str, .b .str, .b .str, .b .bool]⟩, ⟨1110, 0, .row true 113 [.s 9 [.str]]⟩]⟩)], ref07_Ranges_c6⟩
noncomputable def ref07_Ranges_k5 : Cut1 := ⟨⟨[.b (.int .i64), .r [.b (.int .u32), .b (.int .u32), .b .str, .b .str, .b .str, .b .bool], .r [.s 9 [.str]]], 154, [(4, (.own 5000)), (5, (.own 1110)), (6, .v)], [⟨5000, 0, .row true 98 [.b (.int .u32), .b (.int .u32), .b .str, .b .str, .b .str, .b .bool]⟩, ⟨1110, 0, .row true 113 [.s 9 [.str]]⟩]⟩, [(.normal, ⟨[.b (.int .i64), .r [.b (.int .u32), .b (.int .u32), .b .str, .b .str, .b .str, .b .bool], .r [.s 9 [.str]]], 154, [(4, (.own 5000)), (5, (.own 1110)), (6, .v)], [⟨5000, 0, .row true 98 [.b (.int .u32), .b (.int .u32), .b .str, .b .str, .b .str, .b .bool]⟩, ⟨1110, 0, .row true 113 [.s 9 [.str]]⟩]⟩)], ref07_Ranges_c5⟩
noncomputable def ref07_Ranges_k9 : Cut1 := ⟨⟨[.b (.int .i64), .r [.b (.int .u32), .b (.int .u32), .b .str, .b .str, .b .str, .b .bool], .r [.s 9 [.str]], .r [.b .str]], 154, [(4, (.own 5000)), (5, (.own 1110)), (6, .v), (7, (.own 1210))], [⟨5000, 0, .row true 98 [.b (.int .u32), .b (.int .u32), .b .str, .b .str, .b .str, .b .bool]⟩, ⟨1110, 0, .row true 113 [.s 9 [.str]]⟩, ⟨1210, 0, .row false 9 [.b .str]⟩]⟩, [(.ret, ⟨[.b (.int .i64)], 154, [(2, (.lit (.slice none 0 0))), (3, .v)], []⟩), (.normal, ⟨[.b (.int .i64), .r [.b (.int .u32), .b (.int .u32), .b .str, .b .str, .b .str, .b .bool], .r [.s 9 [.str]]], 154, [(4, (.own 5000)), (5, (.own 1110)), (6, .v)], [⟨5000, 0, .row true 98 [.b (.int .u32), .b (.int .u32), .b .str, .b .str, .b .str, .b .bool]⟩, ⟨1110, 0, .row true 113 [.s 9 [.str]]⟩]⟩)], ref07_Ranges_c9⟩
noncomputable def ref07_Ranges_k12 : Cut1 := ⟨⟨[.b (.int .i64), .r [.b (.int .u32), .b (.int .u32), .b .str, .b .str, .b .str, .b .bool], .r [.s 9 [.str]], .r [.b .str], .b (.int .u32), .b (.int .u32)], 154, [(4, (.own 5000)), (5, (.own 1110)), (6, .v), (7, (.own 1210)), (8, (.ptr 108 0))], [⟨5000, 0, .row true 98 [.b (.int .u32), .b (.int .u32), .b .str, .b .str, .b .str, .b .bool]⟩, ⟨1110, 0, .row true 113 [.s 9 [.str]]⟩, ⟨1210, 0, .row false 9 [.b .str]⟩, ⟨108, 0, .cells [.v, .v]⟩]⟩, [(.ret, ⟨[.b (.int .i64)], 154, [(2, (.lit (.slice none 0 0))), (3, .v)], []⟩), (.normal, ⟨[.b (.int .i64), .r [.b (.int .u32), .b (.int .u32), .b .str, .b .str, .b .str, .b .bool], .r [.s 9 [.str]]], 154, [(4, (.own 5000)), (5, (.own 1110)), (6, .v)], [⟨5000, 0, .row true 98 [.b (.int .u32), .b (.int .u32), .b .str, .b .str, .b .str, .b .bool]⟩, ⟨1110, 0, .row true 113 [.s 9 [.str]]⟩]⟩)], ref07_Ranges_c12⟩
noncomputable def ref07_Ranges_k14 : Cut1 := ⟨⟨[.b (.int .i64), .r [.b (.int .u32), .b (.int .u32), .b .str, .b .str, .b .str, .b .bool], .r [.s 9 [.str]], .r [.b .str], .b (.int .u32), .b (.int .u32)], 154, [(4, (.own 5000)), (5, (.own 1110)), (6, .v), (7, (.own 1210)), (8, (.ptr 108 0))], [⟨5000, 0, .row true 98 [.b (.int .u32), .b (.int .u32), .b .str, .b .str, .b .str, .b .bool]⟩, ⟨1110, 0, .row true 113 [.s 9 [.str]]⟩, ⟨1210, 0, .row false 9 [.b .str]⟩, ⟨108, 0, .cells [.v, .v]⟩]⟩, [(.normal, ⟨[.b (.int .i64), .r [.b (.int .u32), .b (.int .u32), .b .str, .b .str, .b .str, .b .bool], .r [.s 9 [.str]]], 154, [(4, (.own 5000)), (5, (.own 1110)), (6, .v)], [⟨5000, 0, .row true 98 [.b (.int .u32), .b (.int .u32), .b .str, .b .str, .b .str, .b .bool]⟩, ⟨1110, 0, .row true 113 [.s 9 [.str]]⟩]⟩)], ref07_Ranges_c14⟩
noncomputable def ref07_Ranges_i : Pat := ⟨[.b .str], 154, [(0, .v)], []⟩
noncomputable def ref07_Ranges_o : Exits := [(.ret, ⟨[.b (.int .i64), .r [.b (.int .u32), .b (.int .u32), .b .str, .b .str, .b .str, .b .bool]], 154, [(2, (.own 5000)), (3, .v)], [⟨5000, 0, .row true 98 [.b (.int .u32), .b (.int .u32), .b .str, .b .str, .b .str, .b .bool]⟩]⟩)]
noncomputable def ref07_Ranges_s : TSum := TSum.of (baseC (fun _ => none) (fun _ => [])) (Go.Proofs.Tryz.f50.results.toList) 0 ref07_Ranges_i ref07_Ranges_o (fun v => ref07_Ranges v)
noncomputable def ref07_Ranges_z : Code := Option.getD Go.Proofs.Tryz.f50.body .skip
noncomputable def ref07_Ranges_x (gl : Glob) : TCtx := { baseC gl (lookS [(102, [ref07_Lines_s]), (103, [ref07_span_s]), (115, [ref07_all_s])]) with inl := lookI [], fuel := 0, loops := lookL [(4, ref07_Ranges_l4)], cuts := lookL [(6, ref07_Ranges_k6), (5, ref07_Ranges_k5), (9, ref07_Ranges_k9), (12, ref07_Ranges_k12), (14, ref07_Ranges_k14)] }
theorem ref07_Ranges_v {gl : Glob} (hg : Gs gl) : ValidS Go.Proofs.Tryz.prog gl 50 ref07_Ranges_s := by
  refine validS_of (c := ref07_Ranges_x gl) ?_ hm_ Go.Proofs.Tryz.func50 (body := ref07_Ranges_z) ?_ ?_ ?_ ?_ ?_ ?_ ?_ ?_ ?_
  · exact tok_of tyB_ok cmpB_ok (.cons (.cons (ref07_Lines_v hg) .nil) (hb_ 102 Go.Proofs.Tryz.func102 (by kernel_rfl) (by kernel_rfl)) (.cons (.cons (ref07_span_v hg) .nil) (hb_ 103 Go.Proofs.Tryz.func103 (by kernel_rfl) (by kernel_rfl)) (.cons (.cons (ref07_all_v hg) .nil) (hb_ 115 Go.Proofs.Tryz.func115 (by kernel_rfl) (by kernel_rfl)) .nil))) .nil
  · kernel_rfl
  · rfl
  · exact annOK_by (l := [∀ v, ref07_Ranges_k14.fn v = (pieceT (ref07_Ranges_x gl) ref07_Ranges_k14.pat ref07_Ranges_k14.exits (subAt [1, 1, 1, 0, 1, 0, 0, 1, 0, 0, 1, 1, 1, 1, 1] ref07_Ranges_z) v).run, ∀ v, ref07_Ranges_k12.fn v = (pieceT (ref07_Ranges_x gl) ref07_Ranges_k12.pat ref07_Ranges_k12.exits (subAt [1, 1, 1, 0, 1, 0, 0, 1, 0, 0, 1, 1, 1, 1] ref07_Ranges_z) v).run, ∀ v, ref07_Ranges_k9.fn v = (pieceT (ref07_Ranges_x gl) ref07_Ranges_k9.pat ref07_Ranges_k9.exits (subAt [1, 1, 1, 0, 1, 0, 0, 1, 0, 0, 1, 1] ref07_Ranges_z) v).run, ∀ v, ref07_Ranges_k5.fn v = (pieceT (ref07_Ranges_x gl) ref07_Ranges_k5.pat ref07_Ranges_k5.exits (subAt [1, 1, 1, 0, 1, 0, 0, 1, 1] ref07_Ranges_z) v).run, ∀ v, ref07_Ranges_k6.fn v = (pieceT (ref07_Ranges_x gl) ref07_Ranges_k6.pat ref07_Ranges_k6.exits (subAt [1, 1, 1, 0, 1, 0, 0, 1] ref07_Ranges_z) v).run, ∀ v, ref07_Ranges_l4.body v = (roundT (ref07_Ranges_x gl) ref07_Ranges_l4.pat ref07_Ranges_l4.exits (subAt [1, 1, 1, 0, 1, 0, 0] ref07_Ranges_z) v).run]) (by kernel_rfl) (⟨fun (a0, a1, a2, a3, a4, a5) => Eq.symm (by kernel_rfl), fun (a0, a1, a2, a3, a4, a5) => Eq.symm (by kernel_rfl), fun (a0, a1, a2, a3) => Eq.symm (by kernel_rfl), fun (a0, a1, a2) => Eq.symm (by kernel_rfl), fun (a0, a1, a2) => Eq.symm (by kernel_rfl), fun (a0, a1, a2) => Eq.symm (by kernel_rfl), trivial⟩)
  · exact fun v => Eq.symm (by kernel_rfl)
  · kernel_rfl
  · kernel_rfl
  · exact exitX_of (.cons (fun v => by kernel_rfl) .nil)
  · rfl
  · rfl
end Go.Tx

/- Printed by the driver (wip/drv): the contracts of Go functions, checked. -/
set_option linter.all false
set_option linter.unusedVariables false
set_option maxRecDepth 100000
set_option maxHeartbeats 0
namespace Go.Tx
open Go Go.Sx
/-! sabretache/sabretacheref07.Sets -/
noncomputable def ref07_Sets_l4 : Loop1 := ⟨⟨[.b (.int .i64), .r [.s 9 [.str]], .r [.b .str, .b (.int .u32), .b (.int .u32)]], 67, [(4, (.own 5000)), (5, (.own 1100)), (6, .v)], [⟨1100, 0, .row true 113 [.s 9 [.str]]⟩, ⟨5000, 0, .row true 100 [.b .str, .b (.int .u32), .b (.int .u32)]⟩]⟩, [(.ret, ⟨[.b (.int .i64)], 67, [(2, (.lit (.slice none 0 0))), (3, .v)], []⟩), (.exit 0, ⟨[.r [.b .str, .b (.int .u32), .b (.int .u32)]], 67, [(4, (.own 5000))], [⟨5000, 0, .row true 100 [.b .str, .b (.int .u32), .b (.int .u32)]⟩]⟩)], ref07_Sets_b4⟩
noncomputable def ref07_Sets_i : Pat := ⟨[.b .str], 67, [(0, .v)], []⟩
noncomputable def ref07_Sets_o : Exits := [(.ret, ⟨[.b (.int .i64), .r [.b .str, .b (.int .u32), .b (.int .u32)]], 67, [(2, (.own 5000)), (3, .v)], [⟨5000, 0, .row true 100 [.b .str, .b (.int .u32), .b (.int .u32)]⟩]⟩)]
noncomputable def ref07_Sets_s : TSum := TSum.of (baseC (fun _ => none) (fun _ => [])) (Go.Proofs.Tryz.f52.results.toList) 0 ref07_Sets_i ref07_Sets_o (fun v => ref07_Sets v)
noncomputable def ref07_Sets_z : Code := Option.getD Go.Proofs.Tryz.f52.body .skip
noncomputable def ref07_Sets_x (gl : Glob) : TCtx := { baseC gl (lookS [(102, [ref07_Lines_s]), (103, [ref07_span_s]), (115, [ref07_all_s])]) with inl := lookI [], fuel := 0, loops := lookL [(4, ref07_Sets_l4)], cuts := lookL [] }
theorem ref07_Sets_v {gl : Glob} (hg : Gs gl) : ValidS Go.Proofs.Tryz.prog gl 52 ref07_Sets_s := by
  refine validS_of (c := ref07_Sets_x gl) ?_ hm_ Go.Proofs.Tryz.func52 (body := ref07_Sets_z) ?_ ?_ ?_ ?_ ?_ ?_ ?_ ?_ ?_
  · exact tok_of tyB_ok cmpB_ok (.cons (.cons (ref07_Lines_v hg) .nil) (hb_ 102 Go.Proofs.Tryz.func102 (by kernel_rfl) (by kernel_rfl)) (.cons (.cons (ref07_span_v hg) .nil) (hb_ 103 Go.Proofs.Tryz.func103 (by kernel_rfl) (by kernel_rfl)) (.cons (.cons (ref07_all_v hg) .nil) (hb_ 115 Go.Proofs.Tryz.func115 (by kernel_rfl) (by kernel_rfl)) .nil))) .nil
  · kernel_rfl
  · rfl
  · exact annOK_by (l := [∀ v, ref07_Sets_l4.body v = (roundT (ref07_Sets_x gl) ref07_Sets_l4.pat ref07_Sets_l4.exits (subAt [1, 1, 1, 0, 1, 0, 0] ref07_Sets_z) v).run]) (by kernel_rfl) (⟨fun (a0, a1, a2) => Eq.symm (by kernel_rfl), trivial⟩)
  · exact fun v => Eq.symm (by kernel_rfl)
  · kernel_rfl
  · kernel_rfl
  · exact exitX_of (.cons (fun v => by kernel_rfl) .nil)
  · rfl
  · rfl
/-! sabretache/sabretacheref07.Decomps -/
noncomputable def ref07_Decomps_l4 : Loop1 := ⟨⟨[.b (.int .i64), .r [.s 9 [.str]], .r [.b (.int .u32), .s 22 [.int .u32], .b .bool, .b .bool]], 116, [(4, (.own 5000)), (5, (.own 1110)), (6, .v)], [⟨1110, 0, .row true 113 [.s 9 [.str]]⟩, ⟨5000, 0, .row true 68 [.b (.int .u32), .s 22 [.int .u32], .b .bool, .b .bool]⟩]⟩, [(.exit 0, ⟨[.r [.b (.int .u32), .s 22 [.int .u32], .b .bool, .b .bool]], 116, [(4, (.own 5000))], [⟨5000, 0, .row true 68 [.b (.int .u32), .s 22 [.int .u32], .b .bool, .b .bool]⟩]⟩), (.ret, ⟨[.b (.int .i64)], 116, [(2, (.lit (.slice none 0 0))), (3, .v)], []⟩)], ref07_Decomps_b4⟩
noncomputable def ref07_Decomps_l11 : Loop1 := ⟨⟨[.b (.int .i64), .b (.int .i64), .r [.b (.int .u32), .s 22 [.int .u32], .b .bool, .b .bool], .r [.s 9 [.str]], .r [.b .str], .b (.int .u32), .b .bool, .b .bool, .r [.b (.int .u32)]], 116, [(4, (.own 5000)), (5, (.own 1110)), (6, .v), (7, (.own 1210)), (8, (.ptr 108 0)), (9, .v)], [⟨5000, 0, .row true 68 [.b (.int .u32), .s 22 [.int .u32], .b .bool, .b .bool]⟩, ⟨1110, 0, .row true 113 [.s 9 [.str]]⟩, ⟨1210, 0, .row false 9 [.b .str]⟩, ⟨108, 0, .cells [.v, (.own 5001), .v, .v]⟩, ⟨5001, 0, .row true 22 [.b (.int .u32)]⟩]⟩, [(.exit 2, ⟨[.b (.int .i64), .r [.b (.int .u32), .s 22 [.int .u32], .b .bool, .b .bool], .r [.s 9 [.str]], .b (.int .u32), .b .bool, .b .bool, .r [.b (.int .u32)]], 116, [(4, (.own 5000)), (5, (.own 1110)), (6, .v), (8, (.ptr 108 0))], [⟨5000, 0, .row true 68 [.b (.int .u32), .s 22 [.int .u32], .b .bool, .b .bool]⟩, ⟨1110, 0, .row true 113 [.s 9 [.str]]⟩, ⟨108, 0, .cells [.v, (.own 5001), .v, .v]⟩, ⟨5001, 0, .row true 22 [.b (.int .u32)]⟩]⟩), (.ret, ⟨[.b (.int .i64)], 116, [(2, (.lit (.slice none 0 0))), (3, .v)], []⟩)], ref07_Decomps_b11⟩
noncomputable def ref07_Decomps_k6 : Cut1 := ⟨⟨[.b (.int .i64), .r [.b (.int .u32), .s 22 [.int .u32], .b .bool, .b .bool], .r [.s 9 [.str]]], 116, [(4, (.own 5000)), (5, (.own 1110)), (6, .v)], [⟨5000, 0, .row true 68 [.b (.int .u32), .s 22 [.int .u32], .b .bool, .b .bool]⟩, ⟨1110, 0, .row true 113 [.s 9 [.str]]⟩]⟩, [(.ret, ⟨[.b (.int .i64)], 116, [(2, (.lit (.slice none 0 0))), (3, .v)], []⟩), (.normal, ⟨[.b (.int .i64), .r [.b (.int .u32), .s 22 [.int .u32], .b .bool, .b .bool], .r [.s 9 [.str]]], 116, [(4, (.own 5000)), (5, (.own 1110)), (6, .v)], [⟨5000, 0, .row true 68 [.b (.int .u32), .s 22 [.int .u32], .b .bool, .b .bool]⟩, ⟨1110, 0, .row true 113 [.s 9 [.str]]⟩]⟩)], ref07_Decomps_c6⟩
noncomputable def ref07_Decomps_k5 : Cut1 := ⟨⟨[.b (.int .i64), .r [.b (.int .u32), .s 22 [.int .u32], .b .bool, .b .bool], .r [.s 9 [.str]]], 116, [(4, (.own 5000)), (5, (.own 1110)), (6, .v)], [⟨5000, 0, .row true 68 [.b (.int .u32), .s 22 [.int .u32], .b .bool, .b .bool]⟩, ⟨1110, 0, .row true 113 [.s 9 [.str]]⟩]⟩, [(.normal, ⟨[.b (.int .i64), .r [.b (.int .u32), .s 22 [.int .u32], .b .bool, .b .bool], .r [.s 9 [.str]]], 116, [(4, (.own 5000)), (5, (.own 1110)), (6, .v)], [⟨5000, 0, .row true 68 [.b (.int .u32), .s 22 [.int .u32], .b .bool, .b .bool]⟩, ⟨1110, 0, .row true 113 [.s 9 [.str]]⟩]⟩)], ref07_Decomps_c5⟩
noncomputable def ref07_Decomps_k9 : Cut1 := ⟨⟨[.b (.int .i64), .r [.b (.int .u32), .s 22 [.int .u32], .b .bool, .b .bool], .r [.s 9 [.str]], .r [.b .str]], 116, [(4, (.own 5000)), (5, (.own 1110)), (6, .v), (7, (.own 1210))], [⟨5000, 0, .row true 68 [.b (.int .u32), .s 22 [.int .u32], .b .bool, .b .bool]⟩, ⟨1110, 0, .row true 113 [.s 9 [.str]]⟩, ⟨1210, 0, .row false 9 [.b .str]⟩]⟩, [(.ret, ⟨[.b (.int .i64)], 116, [(2, (.lit (.slice none 0 0))), (3, .v)], []⟩), (.normal, ⟨[.b (.int .i64), .r [.b (.int .u32), .s 22 [.int .u32], .b .bool, .b .bool], .r [.s 9 [.str]]], 116, [(4, (.own 5000)), (5, (.own 1110)), (6, .v)], [⟨5000, 0, .row true 68 [.b (.int .u32), .s 22 [.int .u32], .b .bool, .b .bool]⟩, ⟨1110, 0, .row true 113 [.s 9 [.str]]⟩]⟩)], ref07_Decomps_c9⟩
noncomputable def ref07_Decomps_k13 : Cut1 := ⟨⟨[.b (.int .i64), .b (.int .i64), .r [.b (.int .u32), .s 22 [.int .u32], .b .bool, .b .bool], .r [.s 9 [.str]], .r [.b .str], .b (.int .u32), .b .bool, .b .bool, .r [.b (.int .u32)]], 116, [(4, (.own 5000)), (5, (.own 1110)), (6, .v), (7, (.own 1210)), (8, (.ptr 108 0)), (9, .v)], [⟨5000, 0, .row true 68 [.b (.int .u32), .s 22 [.int .u32], .b .bool, .b .bool]⟩, ⟨1110, 0, .row true 113 [.s 9 [.str]]⟩, ⟨1210, 0, .row false 9 [.b .str]⟩, ⟨108, 0, .cells [.v, (.own 5001), .v, .v]⟩, ⟨5001, 0, .row true 22 [.b (.int .u32)]⟩]⟩, [(.ret, ⟨[.b (.int .i64)], 116, [(2, (.lit (.slice none 0 0))), (3, .v)], []⟩), (.normal, ⟨[.b (.int .i64), .b (.int .i64), .r [.b (.int .u32), .s 22 [.int .u32], .b .bool, .b .bool], .r [.s 9 [.str]], .r [.b .str], .b (.int .u32), .b .bool, .b .bool, .r [.b (.int .u32)]], 116, [(4, (.own 5000)), (5, (.own 1110)), (6, .v), (7, (.own 1210)), (8, (.ptr 108 0)), (9, .v)], [⟨5000, 0, .row true 68 [.b (.int .u32), .s 22 [.int .u32], .b .bool, .b .bool]⟩, ⟨1110, 0, .row true 113 [.s 9 [.str]]⟩, ⟨1210, 0, .row false 9 [.b .str]⟩, ⟨108, 0, .cells [.v, (.own 194), .v, .v]⟩, ⟨194, 0, .row true 22 [.b (.int .u32)]⟩]⟩)], ref07_Decomps_c13⟩
noncomputable def ref07_Decomps_k12 : Cut1 := ⟨⟨[.b (.int .i64), .b (.int .i64), .r [.b (.int .u32), .s 22 [.int .u32], .b .bool, .b .bool], .r [.s 9 [.str]], .r [.b .str], .b (.int .u32), .b .bool, .b .bool, .r [.b (.int .u32)]], 116, [(4, (.own 5000)), (5, (.own 1110)), (6, .v), (7, (.own 1210)), (8, (.ptr 108 0)), (9, .v)], [⟨5000, 0, .row true 68 [.b (.int .u32), .s 22 [.int .u32], .b .bool, .b .bool]⟩, ⟨1110, 0, .row true 113 [.s 9 [.str]]⟩, ⟨1210, 0, .row false 9 [.b .str]⟩, ⟨108, 0, .cells [.v, (.own 194), .v, .v]⟩, ⟨194, 0, .row true 22 [.b (.int .u32)]⟩]⟩, [(.normal, ⟨[.b (.int .i64), .b (.int .i64), .r [.b (.int .u32), .s 22 [.int .u32], .b .bool, .b .bool], .r [.s 9 [.str]], .r [.b .str], .b (.int .u32), .b .bool, .b .bool, .r [.b (.int .u32)]], 116, [(4, (.own 5000)), (5, (.own 1110)), (6, .v), (7, (.own 1210)), (8, (.ptr 108 0)), (9, .v)], [⟨5000, 0, .row true 68 [.b (.int .u32), .s 22 [.int .u32], .b .bool, .b .bool]⟩, ⟨1110, 0, .row true 113 [.s 9 [.str]]⟩, ⟨1210, 0, .row false 9 [.b .str]⟩, ⟨108, 0, .cells [.v, (.own 194), .v, .v]⟩, ⟨194, 0, .row true 22 [.b (.int .u32)]⟩]⟩)], ref07_Decomps_c12⟩
noncomputable def ref07_Decomps_k15 : Cut1 := ⟨⟨[.b (.int .i64), .b (.int .i64), .r [.b (.int .u32), .s 22 [.int .u32], .b .bool, .b .bool], .r [.s 9 [.str]], .r [.b .str], .b (.int .u32), .b .bool, .b .bool, .r [.b (.int .u32)]], 116, [(4, (.own 5000)), (5, (.own 1110)), (6, .v), (7, (.own 1210)), (8, (.ptr 108 0)), (9, .v)], [⟨5000, 0, .row true 68 [.b (.int .u32), .s 22 [.int .u32], .b .bool, .b .bool]⟩, ⟨1110, 0, .row true 113 [.s 9 [.str]]⟩, ⟨1210, 0, .row false 9 [.b .str]⟩, ⟨108, 0, .cells [.v, (.own 5001), .v, .v]⟩, ⟨5001, 0, .row true 22 [.b (.int .u32)]⟩]⟩, [(.normal, ⟨[.b (.int .i64), .b (.int .i64), .r [.b (.int .u32), .s 22 [.int .u32], .b .bool, .b .bool], .r [.s 9 [.str]], .r [.b .str], .b (.int .u32), .b .bool, .b .bool, .r [.b (.int .u32)]], 116, [(4, (.own 5000)), (5, (.own 1110)), (6, .v), (7, (.own 1210)), (8, (.ptr 108 0)), (9, .v)], [⟨5000, 0, .row true 68 [.b (.int .u32), .s 22 [.int .u32], .b .bool, .b .bool]⟩, ⟨1110, 0, .row true 113 [.s 9 [.str]]⟩, ⟨1210, 0, .row false 9 [.b .str]⟩, ⟨108, 0, .cells [.v, (.own 194), .v, .v]⟩, ⟨194, 0, .row true 22 [.b (.int .u32)]⟩]⟩)], ref07_Decomps_c15⟩
noncomputable def ref07_Decomps_k18 : Cut1 := ⟨⟨[.b (.int .i64), .r [.b (.int .u32), .s 22 [.int .u32], .b .bool, .b .bool], .r [.s 9 [.str]], .b (.int .u32), .b .bool, .b .bool, .r [.b (.int .u32)]], 116, [(4, (.own 5000)), (5, (.own 1110)), (6, .v), (8, (.ptr 108 0))], [⟨5000, 0, .row true 68 [.b (.int .u32), .s 22 [.int .u32], .b .bool, .b .bool]⟩, ⟨1110, 0, .row true 113 [.s 9 [.str]]⟩, ⟨108, 0, .cells [.v, (.own 5001), .v, .v]⟩, ⟨5001, 0, .row true 22 [.b (.int .u32)]⟩]⟩, [(.normal, ⟨[.b (.int .i64), .r [.b (.int .u32), .s 22 [.int .u32], .b .bool, .b .bool], .r [.s 9 [.str]]], 116, [(4, (.own 5000)), (5, (.own 1110)), (6, .v)], [⟨5000, 0, .row true 68 [.b (.int .u32), .s 22 [.int .u32], .b .bool, .b .bool]⟩, ⟨1110, 0, .row true 113 [.s 9 [.str]]⟩]⟩)], ref07_Decomps_c18⟩
noncomputable def ref07_Decomps_i : Pat := ⟨[.b .str], 116, [(0, .v)], []⟩
noncomputable def ref07_Decomps_o : Exits := [(.ret, ⟨[.b (.int .i64), .r [.b (.int .u32), .s 22 [.int .u32], .b .bool, .b .bool]], 116, [(2, (.own 5000)), (3, .v)], [⟨5000, 0, .row true 68 [.b (.int .u32), .s 22 [.int .u32], .b .bool, .b .bool]⟩]⟩)]
noncomputable def ref07_Decomps_s : TSum := TSum.of (baseC (fun _ => none) (fun _ => [])) (Go.Proofs.Tryz.f54.results.toList) 0 ref07_Decomps_i ref07_Decomps_o (fun v => ref07_Decomps v)
noncomputable def ref07_Decomps_z : Code := Option.getD Go.Proofs.Tryz.f54.body .skip
noncomputable def ref07_Decomps_x (gl : Glob) : TCtx := { baseC gl (lookS [(102, [ref07_Lines_s]), (110, [ref07_Point_s])]) with inl := lookI [], fuel := 0, loops := lookL [(4, ref07_Decomps_l4), (11, ref07_Decomps_l11)], cuts := lookL [(6, ref07_Decomps_k6), (5, ref07_Decomps_k5), (9, ref07_Decomps_k9), (13, ref07_Decomps_k13), (12, ref07_Decomps_k12), (15, ref07_Decomps_k15), (18, ref07_Decomps_k18)] }
theorem ref07_Decomps_v {gl : Glob} (hg : Gs gl) : ValidS Go.Proofs.Tryz.prog gl 54 ref07_Decomps_s := by
  refine validS_of (c := ref07_Decomps_x gl) ?_ hm_ Go.Proofs.Tryz.func54 (body := ref07_Decomps_z) ?_ ?_ ?_ ?_ ?_ ?_ ?_ ?_ ?_
  · exact tok_of tyB_ok cmpB_ok (.cons (.cons (ref07_Lines_v hg) .nil) (hb_ 102 Go.Proofs.Tryz.func102 (by kernel_rfl) (by kernel_rfl)) (.cons (.cons (ref07_Point_v hg) .nil) (hb_ 110 Go.Proofs.Tryz.func110 (by kernel_rfl) (by kernel_rfl)) .nil)) .nil
  · kernel_rfl
  · rfl
  · exact annOK_by (l := [∀ v, ref07_Decomps_k15.fn v = (pieceT (ref07_Decomps_x gl) ref07_Decomps_k15.pat ref07_Decomps_k15.exits (subAt [1, 1, 1, 0, 1, 0, 0, 1, 0, 0, 1, 1, 1, 0, 1, 0, 0, 1, 0, 0, 1] ref07_Decomps_z) v).run, ∀ v, ref07_Decomps_k12.fn v = (pieceT (ref07_Decomps_x gl) ref07_Decomps_k12.pat ref07_Decomps_k12.exits (subAt [1, 1, 1, 0, 1, 0, 0, 1, 0, 0, 1, 1, 1, 0, 1, 0, 0, 1, 1] ref07_Decomps_z) v).run, ∀ v, ref07_Decomps_k13.fn v = (pieceT (ref07_Decomps_x gl) ref07_Decomps_k13.pat ref07_Decomps_k13.exits (subAt [1, 1, 1, 0, 1, 0, 0, 1, 0, 0, 1, 1, 1, 0, 1, 0, 0, 1] ref07_Decomps_z) v).run, ∀ v, ref07_Decomps_l11.body v = (roundT (ref07_Decomps_x gl) ref07_Decomps_l11.pat ref07_Decomps_l11.exits (subAt [1, 1, 1, 0, 1, 0, 0, 1, 0, 0, 1, 1, 1, 0, 1, 0, 0] ref07_Decomps_z) v).run, ∀ v, ref07_Decomps_k18.fn v = (pieceT (ref07_Decomps_x gl) ref07_Decomps_k18.pat ref07_Decomps_k18.exits (subAt [1, 1, 1, 0, 1, 0, 0, 1, 0, 0, 1, 1, 1, 1, 1] ref07_Decomps_z) v).run, ∀ v, ref07_Decomps_k9.fn v = (pieceT (ref07_Decomps_x gl) ref07_Decomps_k9.pat ref07_Decomps_k9.exits (subAt [1, 1, 1, 0, 1, 0, 0, 1, 0, 0, 1, 1] ref07_Decomps_z) v).run, ∀ v, ref07_Decomps_k5.fn v = (pieceT (ref07_Decomps_x gl) ref07_Decomps_k5.pat ref07_Decomps_k5.exits (subAt [1, 1, 1, 0, 1, 0, 0, 1, 1] ref07_Decomps_z) v).run, ∀ v, ref07_Decomps_k6.fn v = (pieceT (ref07_Decomps_x gl) ref07_Decomps_k6.pat ref07_Decomps_k6.exits (subAt [1, 1, 1, 0, 1, 0, 0, 1] ref07_Decomps_z) v).run, ∀ v, ref07_Decomps_l4.body v = (roundT (ref07_Decomps_x gl) ref07_Decomps_l4.pat ref07_Decomps_l4.exits (subAt [1, 1, 1, 0, 1, 0, 0] ref07_Decomps_z) v).run]) (by kernel_rfl) (⟨fun (a0, a1, a2, a3, a4, a5, a6, a7, a8) => Eq.symm (by kernel_rfl), fun (a0, a1, a2, a3, a4, a5, a6, a7, a8) => Eq.symm (by kernel_rfl), fun (a0, a1, a2, a3, a4, a5, a6, a7, a8) => Eq.symm (by kernel_rfl), fun (a0, a1, a2, a3, a4, a5, a6, a7, a8) => Eq.symm (by kernel_rfl), fun (a0, a1, a2, a3, a4, a5, a6) => Eq.symm (by kernel_rfl), fun (a0, a1, a2, a3) => Eq.symm (by kernel_rfl), fun (a0, a1, a2) => Eq.symm (by kernel_rfl), fun (a0, a1, a2) => Eq.symm (by kernel_rfl), fun (a0, a1, a2) => Eq.symm (by kernel_rfl), trivial⟩)
  · exact fun v => Eq.symm (by kernel_rfl)
  · kernel_rfl
  · kernel_rfl
  · exact exitX_of (.cons (fun v => by kernel_rfl) .nil)
  · rfl
  · rfl
end Go.Tx

/- Printed by the driver (wip/drv): the contracts of Go functions, checked. -/
set_option linter.all false
set_option linter.unusedVariables false
set_option maxRecDepth 100000
set_option maxHeartbeats 0
namespace Go.Tx
open Go Go.Sx
/-! sabretache/sabretacheref08.New -/
noncomputable def ref08_New_i : Pat := ⟨[], 33, [], []⟩
noncomputable def ref08_New_o : Exits := [(.ret, ⟨[.r [.b (.int .u32), .b (.int .u32), .b .str, .b .str, .b .str, .b .bool], .r [.b (.int .u32), .b (.int .u32), .b (.int .u32)], .r [.b (.int .u32), .s 22 [.int .u32], .b .bool, .b .bool], .r [.b (.int .u32), .b (.int .u32), .b (.int .u32)], .r [.b (.int .u32), .b (.int .u32), .b (.int .u32)], .r [.b .str, .b (.int .u32), .b (.int .u32)]], 33, [(0, (.ptr 100 0))], [⟨100, 0, .cells [(.own 1030), (.own 1080), (.own 1130), (.own 1180), (.own 1230), (.own 1280)]⟩, ⟨1030, 0, .row true 98 [.b (.int .u32), .b (.int .u32), .b .str, .b .str, .b .str, .b .bool]⟩, ⟨1080, 0, .row true 85 [.b (.int .u32), .b (.int .u32), .b (.int .u32)]⟩, ⟨1130, 0, .row true 68 [.b (.int .u32), .s 22 [.int .u32], .b .bool, .b .bool]⟩, ⟨1180, 0, .row true 87 [.b (.int .u32), .b (.int .u32), .b (.int .u32)]⟩, ⟨1230, 0, .row true 87 [.b (.int .u32), .b (.int .u32), .b (.int .u32)]⟩, ⟨1280, 0, .row true 100 [.b .str, .b (.int .u32), .b (.int .u32)]⟩]⟩)]
noncomputable def ref08_New_s : TSum := TSum.of (baseC (fun _ => none) (fun _ => [])) (Go.Proofs.Tryz.f15.results.toList) 0 ref08_New_i ref08_New_o (fun v => ref08_New )
noncomputable def ref08_New_z : Code := Option.getD Go.Proofs.Tryz.f15.body .skip
noncomputable def ref08_New_x (gl : Glob) : TCtx := { baseC gl (lookS [(45, [ref07_Classes_s]), (47, [ref07_Runs_s]), (50, [ref07_Ranges_s]), (52, [ref07_Sets_s]), (54, [ref07_Decomps_s])]) with inl := lookI [], fuel := 0, loops := lookL [], cuts := lookL [] }
theorem ref08_New_v {gl : Glob} (hg : Gs gl) : ValidS Go.Proofs.Tryz.prog gl 15 ref08_New_s := by
  refine validS_of (c := ref08_New_x gl) ?_ hm_ Go.Proofs.Tryz.func15 (body := ref08_New_z) ?_ ?_ ?_ ?_ ?_ ?_ ?_ ?_ ?_
  · exact tok_of tyB_ok cmpB_ok (.cons (.cons (ref07_Classes_v hg) .nil) (hb_ 45 Go.Proofs.Tryz.func45 (by kernel_rfl) (by kernel_rfl)) (.cons (.cons (ref07_Runs_v hg) .nil) (hb_ 47 Go.Proofs.Tryz.func47 (by kernel_rfl) (by kernel_rfl)) (.cons (.cons (ref07_Ranges_v hg) .nil) (hb_ 50 Go.Proofs.Tryz.func50 (by kernel_rfl) (by kernel_rfl)) (.cons (.cons (ref07_Sets_v hg) .nil) (hb_ 52 Go.Proofs.Tryz.func52 (by kernel_rfl) (by kernel_rfl)) (.cons (.cons (ref07_Decomps_v hg) .nil) (hb_ 54 Go.Proofs.Tryz.func54 (by kernel_rfl) (by kernel_rfl)) .nil))))) .nil
  · kernel_rfl
  · rfl
  · exact annOK_by (l := []) (by kernel_rfl) (trivial)
  · exact fun v => Eq.symm (by kernel_rfl)
  · kernel_rfl
  · kernel_rfl
  · exact exitX_of (.cons (fun v => by kernel_rfl) .nil)
  · rfl
  · rfl
/-! (sabretache/sabretacheref08.Tables).Line -/
noncomputable def ref08_Tables_Line_l2 : Loop1 := ⟨⟨[.b (.int .u32), .b .bool, .b (.int .i64), .r [.b (.int .u32), .b (.int .u32), .b .str, .b .str, .b .str, .b .bool], .r [.b (.int .u32), .b (.int .u32), .b (.int .u32)], .r [.b (.int .u32), .s 22 [.int .u32], .b .bool, .b .bool], .r [.b (.int .u32), .b (.int .u32), .b (.int .u32)], .r [.b (.int .u32), .b (.int .u32), .b (.int .u32)], .r [.b .str, .b (.int .u32), .b (.int .u32)]], 36, [(1, .v), (2, .v), (3, (.ptr 103 0)), (7, .v)], [⟨103, 0, .cells [(.own 0), (.own 1), (.own 2), (.own 3), (.own 4), (.own 5)]⟩, ⟨0, 0, .row true 98 [.b (.int .u32), .b (.int .u32), .b .str, .b .str, .b .str, .b .bool]⟩, ⟨1, 0, .row true 85 [.b (.int .u32), .b (.int .u32), .b (.int .u32)]⟩, ⟨2, 0, .row true 68 [.b (.int .u32), .s 22 [.int .u32], .b .bool, .b .bool]⟩, ⟨3, 0, .row true 87 [.b (.int .u32), .b (.int .u32), .b (.int .u32)]⟩, ⟨4, 0, .row true 87 [.b (.int .u32), .b (.int .u32), .b (.int .u32)]⟩, ⟨5, 0, .row true 100 [.b .str, .b (.int .u32), .b (.int .u32)]⟩]⟩, [(.ret, ⟨[.b (.int .i64), .r [.b (.int .u32), .b (.int .u32), .b .str, .b .str, .b .str, .b .bool], .r [.b (.int .u32), .b (.int .u32), .b (.int .u32)], .r [.b (.int .u32), .s 22 [.int .u32], .b .bool, .b .bool], .r [.b (.int .u32), .b (.int .u32), .b (.int .u32)], .r [.b (.int .u32), .b (.int .u32), .b (.int .u32)], .r [.b .str, .b (.int .u32), .b (.int .u32)]], 36, [(6, .v)], [⟨0, 0, .row true 98 [.b (.int .u32), .b (.int .u32), .b .str, .b .str, .b .str, .b .bool]⟩, ⟨1, 0, .row true 85 [.b (.int .u32), .b (.int .u32), .b (.int .u32)]⟩, ⟨2, 0, .row true 68 [.b (.int .u32), .s 22 [.int .u32], .b .bool, .b .bool]⟩, ⟨3, 0, .row true 87 [.b (.int .u32), .b (.int .u32), .b (.int .u32)]⟩, ⟨4, 0, .row true 87 [.b (.int .u32), .b (.int .u32), .b (.int .u32)]⟩, ⟨5, 0, .row true 100 [.b .str, .b (.int .u32), .b (.int .u32)]⟩]⟩), (.exit 0, ⟨[.r [.b (.int .u32), .b (.int .u32), .b .str, .b .str, .b .str, .b .bool], .r [.b (.int .u32), .b (.int .u32), .b (.int .u32)], .r [.b (.int .u32), .s 22 [.int .u32], .b .bool, .b .bool], .r [.b (.int .u32), .b (.int .u32), .b (.int .u32)], .r [.b (.int .u32), .b (.int .u32), .b (.int .u32)], .r [.b .str, .b (.int .u32), .b (.int .u32)]], 36, [], [⟨0, 0, .row true 98 [.b (.int .u32), .b (.int .u32), .b .str, .b .str, .b .str, .b .bool]⟩, ⟨1, 0, .row true 85 [.b (.int .u32), .b (.int .u32), .b (.int .u32)]⟩, ⟨2, 0, .row true 68 [.b (.int .u32), .s 22 [.int .u32], .b .bool, .b .bool]⟩, ⟨3, 0, .row true 87 [.b (.int .u32), .b (.int .u32), .b (.int .u32)]⟩, ⟨4, 0, .row true 87 [.b (.int .u32), .b (.int .u32), .b (.int .u32)]⟩, ⟨5, 0, .row true 100 [.b .str, .b (.int .u32), .b (.int .u32)]⟩]⟩)], ref08_Tables_Line_b2⟩
noncomputable def ref08_Tables_Line_i : Pat := ⟨[.b (.int .u32), .b .bool, .r [.b (.int .u32), .b (.int .u32), .b .str, .b .str, .b .str, .b .bool], .r [.b (.int .u32), .b (.int .u32), .b (.int .u32)], .r [.b (.int .u32), .s 22 [.int .u32], .b .bool, .b .bool], .r [.b (.int .u32), .b (.int .u32), .b (.int .u32)], .r [.b (.int .u32), .b (.int .u32), .b (.int .u32)], .r [.b .str, .b (.int .u32), .b (.int .u32)]], 36, [(0, (.agg [(.own 0), (.own 1), (.own 2), (.own 3), (.own 4), (.own 5)])), (1, .v), (2, .v)], [⟨0, 0, .row true 98 [.b (.int .u32), .b (.int .u32), .b .str, .b .str, .b .str, .b .bool]⟩, ⟨1, 0, .row true 85 [.b (.int .u32), .b (.int .u32), .b (.int .u32)]⟩, ⟨2, 0, .row true 68 [.b (.int .u32), .s 22 [.int .u32], .b .bool, .b .bool]⟩, ⟨3, 0, .row true 87 [.b (.int .u32), .b (.int .u32), .b (.int .u32)]⟩, ⟨4, 0, .row true 87 [.b (.int .u32), .b (.int .u32), .b (.int .u32)]⟩, ⟨5, 0, .row true 100 [.b .str, .b (.int .u32), .b (.int .u32)]⟩]⟩
noncomputable def ref08_Tables_Line_o : Exits := [(.ret, ⟨[.b (.int .i64), .r [.b (.int .u32), .b (.int .u32), .b .str, .b .str, .b .str, .b .bool], .r [.b (.int .u32), .b (.int .u32), .b (.int .u32)], .r [.b (.int .u32), .s 22 [.int .u32], .b .bool, .b .bool], .r [.b (.int .u32), .b (.int .u32), .b (.int .u32)], .r [.b (.int .u32), .b (.int .u32), .b (.int .u32)], .r [.b .str, .b (.int .u32), .b (.int .u32)]], 36, [(6, .v)], [⟨0, 0, .row true 98 [.b (.int .u32), .b (.int .u32), .b .str, .b .str, .b .str, .b .bool]⟩, ⟨1, 0, .row true 85 [.b (.int .u32), .b (.int .u32), .b (.int .u32)]⟩, ⟨2, 0, .row true 68 [.b (.int .u32), .s 22 [.int .u32], .b .bool, .b .bool]⟩, ⟨3, 0, .row true 87 [.b (.int .u32), .b (.int .u32), .b (.int .u32)]⟩, ⟨4, 0, .row true 87 [.b (.int .u32), .b (.int .u32), .b (.int .u32)]⟩, ⟨5, 0, .row true 100 [.b .str, .b (.int .u32), .b (.int .u32)]⟩]⟩)]
noncomputable def ref08_Tables_Line_s : TSum := TSum.of (baseC (fun _ => none) (fun _ => [])) (Go.Proofs.Tryz.f18.results.toList) 6 ref08_Tables_Line_i ref08_Tables_Line_o (fun v => ref08_Tables_Line v.1 v.2.1 v.2.2.1 v.2.2.2.1 v.2.2.2.2.1 v.2.2.2.2.2.1 v.2.2.2.2.2.2.1 v.2.2.2.2.2.2.2)
noncomputable def ref08_Tables_Line_z : Code := Option.getD Go.Proofs.Tryz.f18.body .skip
noncomputable def ref08_Tables_Line_x (gl : Glob) : TCtx := { baseC gl (lookS []) with inl := lookI [], fuel := 0, loops := lookL [(2, ref08_Tables_Line_l2)], cuts := lookL [] }
theorem ref08_Tables_Line_v {gl : Glob} (hg : Gs gl) : ValidS Go.Proofs.Tryz.prog gl 18 ref08_Tables_Line_s := by
  refine validS_of (c := ref08_Tables_Line_x gl) ?_ hm_ Go.Proofs.Tryz.func18 (body := ref08_Tables_Line_z) ?_ ?_ ?_ ?_ ?_ ?_ ?_ ?_ ?_
  · exact tok_of tyB_ok cmpB_ok .nil .nil
  · kernel_rfl
  · rfl
  · exact annOK_by (l := [∀ v, ref08_Tables_Line_l2.body v = (roundT (ref08_Tables_Line_x gl) ref08_Tables_Line_l2.pat ref08_Tables_Line_l2.exits (subAt [1, 0, 1, 0, 0] ref08_Tables_Line_z) v).run]) (by kernel_rfl) (⟨fun (a0, a1, a2, a3, a4, a5, a6, a7, a8) => Eq.symm (by kernel_rfl), trivial⟩)
  · exact fun (a0, a1, a2, a3, a4, a5, a6, a7) => Eq.symm (by kernel_rfl)
  · kernel_rfl
  · kernel_rfl
  · exact exitX_of (.cons (fun v => by kernel_rfl) .nil)
  · rfl
  · rfl
/-! (sabretache/sabretacheref08.Tables).Full -/
noncomputable def ref08_Tables_Full_l6 (ref08_Tables_Full_rec : Int → Bool → (List (Int × Int × ByteArray × ByteArray × ByteArray × Bool)) → (List (Int × Int × Int)) → (List (Int × List (Int) × Bool × Bool)) → (List (Int × Int × Int)) → (List (Int × Int × Int)) → (List (ByteArray × Int × Int)) → Option ((List (Int) × List (Int × Int × ByteArray × ByteArray × ByteArray × Bool) × List (Int × Int × Int) × List (Int × List (Int) × Bool × Bool) × List (Int × Int × Int) × List (Int × Int × Int) × List (ByteArray × Int × Int)))) : Loop1 := ⟨⟨[.b .bool, .b (.int .i64), .b (.int .i64), .r [.b (.int .u32), .b (.int .u32), .b .str, .b .str, .b .str, .b .bool], .r [.b (.int .u32), .b (.int .u32), .b (.int .u32)], .r [.b (.int .u32), .s 22 [.int .u32], .b .bool, .b .bool], .r [.b (.int .u32), .b (.int .u32), .b (.int .u32)], .r [.b (.int .u32), .b (.int .u32), .b (.int .u32)], .r [.b .str, .b (.int .u32), .b (.int .u32)], .r [.b (.int .u32)]], 44, [(2, .v), (3, (.ptr 103 0)), (7, .v), (8, (.own 5000)), (9, .v)], [⟨103, 0, .cells [(.own 0), (.own 1), (.own 2), (.own 3), (.own 4), (.own 5)]⟩, ⟨0, 0, .row true 98 [.b (.int .u32), .b (.int .u32), .b .str, .b .str, .b .str, .b .bool]⟩, ⟨1, 0, .row true 85 [.b (.int .u32), .b (.int .u32), .b (.int .u32)]⟩, ⟨2, 0, .row true 68 [.b (.int .u32), .s 22 [.int .u32], .b .bool, .b .bool]⟩, ⟨3, 0, .row true 87 [.b (.int .u32), .b (.int .u32), .b (.int .u32)]⟩, ⟨4, 0, .row true 87 [.b (.int .u32), .b (.int .u32), .b (.int .u32)]⟩, ⟨5, 0, .row true 100 [.b .str, .b (.int .u32), .b (.int .u32)]⟩, ⟨5000, 0, .row true 22 [.b (.int .u32)]⟩]⟩, [(.exit 0, ⟨[.r [.b (.int .u32)], .r [.b (.int .u32), .b (.int .u32), .b .str, .b .str, .b .str, .b .bool], .r [.b (.int .u32), .b (.int .u32), .b (.int .u32)], .r [.b (.int .u32), .s 22 [.int .u32], .b .bool, .b .bool], .r [.b (.int .u32), .b (.int .u32), .b (.int .u32)], .r [.b (.int .u32), .b (.int .u32), .b (.int .u32)], .r [.b .str, .b (.int .u32), .b (.int .u32)]], 44, [(8, (.own 5000))], [⟨5000, 0, .row true 22 [.b (.int .u32)]⟩, ⟨0, 0, .row true 98 [.b (.int .u32), .b (.int .u32), .b .str, .b .str, .b .str, .b .bool]⟩, ⟨1, 0, .row true 85 [.b (.int .u32), .b (.int .u32), .b (.int .u32)]⟩, ⟨2, 0, .row true 68 [.b (.int .u32), .s 22 [.int .u32], .b .bool, .b .bool]⟩, ⟨3, 0, .row true 87 [.b (.int .u32), .b (.int .u32), .b (.int .u32)]⟩, ⟨4, 0, .row true 87 [.b (.int .u32), .b (.int .u32), .b (.int .u32)]⟩, ⟨5, 0, .row true 100 [.b .str, .b (.int .u32), .b (.int .u32)]⟩]⟩)], ref08_Tables_Full_b6 ref08_Tables_Full_rec⟩
noncomputable def ref08_Tables_Full_i : Pat := ⟨[.b (.int .u32), .b .bool, .r [.b (.int .u32), .b (.int .u32), .b .str, .b .str, .b .str, .b .bool], .r [.b (.int .u32), .b (.int .u32), .b (.int .u32)], .r [.b (.int .u32), .s 22 [.int .u32], .b .bool, .b .bool], .r [.b (.int .u32), .b (.int .u32), .b (.int .u32)], .r [.b (.int .u32), .b (.int .u32), .b (.int .u32)], .r [.b .str, .b (.int .u32), .b (.int .u32)]], 44, [(0, (.agg [(.own 0), (.own 1), (.own 2), (.own 3), (.own 4), (.own 5)])), (1, .v), (2, .v)], [⟨0, 0, .row true 98 [.b (.int .u32), .b (.int .u32), .b .str, .b .str, .b .str, .b .bool]⟩, ⟨1, 0, .row true 85 [.b (.int .u32), .b (.int .u32), .b (.int .u32)]⟩, ⟨2, 0, .row true 68 [.b (.int .u32), .s 22 [.int .u32], .b .bool, .b .bool]⟩, ⟨3, 0, .row true 87 [.b (.int .u32), .b (.int .u32), .b (.int .u32)]⟩, ⟨4, 0, .row true 87 [.b (.int .u32), .b (.int .u32), .b (.int .u32)]⟩, ⟨5, 0, .row true 100 [.b .str, .b (.int .u32), .b (.int .u32)]⟩]⟩
noncomputable def ref08_Tables_Full_o : Exits := [(.ret, ⟨[.r [.b (.int .u32)], .r [.b (.int .u32), .b (.int .u32), .b .str, .b .str, .b .str, .b .bool], .r [.b (.int .u32), .b (.int .u32), .b (.int .u32)], .r [.b (.int .u32), .s 22 [.int .u32], .b .bool, .b .bool], .r [.b (.int .u32), .b (.int .u32), .b (.int .u32)], .r [.b (.int .u32), .b (.int .u32), .b (.int .u32)], .r [.b .str, .b (.int .u32), .b (.int .u32)]], 44, [(6, (.own 117))], [⟨117, 0, .row true 22 [.b (.int .u32)]⟩, ⟨0, 0, .row true 98 [.b (.int .u32), .b (.int .u32), .b .str, .b .str, .b .str, .b .bool]⟩, ⟨1, 0, .row true 85 [.b (.int .u32), .b (.int .u32), .b (.int .u32)]⟩, ⟨2, 0, .row true 68 [.b (.int .u32), .s 22 [.int .u32], .b .bool, .b .bool]⟩, ⟨3, 0, .row true 87 [.b (.int .u32), .b (.int .u32), .b (.int .u32)]⟩, ⟨4, 0, .row true 87 [.b (.int .u32), .b (.int .u32), .b (.int .u32)]⟩, ⟨5, 0, .row true 100 [.b .str, .b (.int .u32), .b (.int .u32)]⟩]⟩)]
noncomputable def ref08_Tables_Full_sr (ref08_Tables_Full_rec : Int → Bool → (List (Int × Int × ByteArray × ByteArray × ByteArray × Bool)) → (List (Int × Int × Int)) → (List (Int × List (Int) × Bool × Bool)) → (List (Int × Int × Int)) → (List (Int × Int × Int)) → (List (ByteArray × Int × Int)) → Option ((List (Int) × List (Int × Int × ByteArray × ByteArray × ByteArray × Bool) × List (Int × Int × Int) × List (Int × List (Int) × Bool × Bool) × List (Int × Int × Int) × List (Int × Int × Int) × List (ByteArray × Int × Int)))) : TSum := TSum.of (baseC (fun _ => none) (fun _ => [])) (Go.Proofs.Tryz.f19.results.toList) 6 ref08_Tables_Full_i ref08_Tables_Full_o (fun v => ref08_Tables_Full_rec v.1 v.2.1 v.2.2.1 v.2.2.2.1 v.2.2.2.2.1 v.2.2.2.2.2.1 v.2.2.2.2.2.2.1 v.2.2.2.2.2.2.2)
noncomputable def ref08_Tables_Full_z : Code := Option.getD Go.Proofs.Tryz.f19.body .skip
noncomputable def ref08_Tables_Full_x (gl : Glob) (ref08_Tables_Full_rec : Int → Bool → (List (Int × Int × ByteArray × ByteArray × ByteArray × Bool)) → (List (Int × Int × Int)) → (List (Int × List (Int) × Bool × Bool)) → (List (Int × Int × Int)) → (List (Int × Int × Int)) → (List (ByteArray × Int × Int)) → Option ((List (Int) × List (Int × Int × ByteArray × ByteArray × ByteArray × Bool) × List (Int × Int × Int) × List (Int × List (Int) × Bool × Bool) × List (Int × Int × Int) × List (Int × Int × Int) × List (ByteArray × Int × Int)))) : TCtx := { baseC gl (lookS [(19, [(ref08_Tables_Full_sr ref08_Tables_Full_rec)]), (18, [ref08_Tables_Line_s])]) with inl := lookI [], fuel := 0, loops := lookL [(6, (ref08_Tables_Full_l6 ref08_Tables_Full_rec))], cuts := lookL [] }
theorem ref08_Tables_Full_vr {gl : Glob} (hg : Gs gl) (ref08_Tables_Full_rec : Int → Bool → (List (Int × Int × ByteArray × ByteArray × ByteArray × Bool)) → (List (Int × Int × Int)) → (List (Int × List (Int) × Bool × Bool)) → (List (Int × Int × Int)) → (List (Int × Int × Int)) → (List (ByteArray × Int × Int)) → Option ((List (Int) × List (Int × Int × ByteArray × ByteArray × ByteArray × Bool) × List (Int × Int × Int) × List (Int × List (Int) × Bool × Bool) × List (Int × Int × Int) × List (Int × Int × Int) × List (ByteArray × Int × Int)))) (ih : ValidS Go.Proofs.Tryz.prog gl 19 (ref08_Tables_Full_sr ref08_Tables_Full_rec)) : ValidS Go.Proofs.Tryz.prog gl 19 (ref08_Tables_Full_sr (ref08_Tables_Full_r ref08_Tables_Full_rec)) := by
  refine validS_of (c := ref08_Tables_Full_x gl ref08_Tables_Full_rec) ?_ hm_ Go.Proofs.Tryz.func19 (body := ref08_Tables_Full_z) ?_ ?_ ?_ ?_ ?_ ?_ ?_ ?_ ?_
  · exact tok_of tyB_ok cmpB_ok (.cons (.cons ih .nil) (hb_ 19 Go.Proofs.Tryz.func19 (by kernel_rfl) (by kernel_rfl)) (.cons (.cons (ref08_Tables_Line_v hg) .nil) (hb_ 18 Go.Proofs.Tryz.func18 (by kernel_rfl) (by kernel_rfl)) .nil)) .nil
  · kernel_rfl
  · rfl
  · exact annOK_by (l := [∀ v, (ref08_Tables_Full_l6 ref08_Tables_Full_rec).body v = (roundT (ref08_Tables_Full_x gl ref08_Tables_Full_rec) (ref08_Tables_Full_l6 ref08_Tables_Full_rec).pat (ref08_Tables_Full_l6 ref08_Tables_Full_rec).exits (subAt [1, 1, 1, 1, 0, 1, 0, 0] ref08_Tables_Full_z) v).run]) (by kernel_rfl) (⟨fun (a0, a1, a2, a3, a4, a5, a6, a7, a8, a9) => Eq.symm (by kernel_rfl), trivial⟩)
  · exact fun (a0, a1, a2, a3, a4, a5, a6, a7) => Eq.symm (by kernel_rfl)
  · kernel_rfl
  · kernel_rfl
  · exact exitX_of (.cons (fun v => by kernel_rfl) .nil)
  · rfl
  · rfl
theorem ref08_Tables_Full_vn {gl : Glob} (hg : Gs gl) : ∀ n, ValidS Go.Proofs.Tryz.prog gl 19 (ref08_Tables_Full_sr (ref08_Tables_Full_n n))
  | 0 => validS_none (fun v => rfl)
  | n + 1 => ref08_Tables_Full_vr hg _ (ref08_Tables_Full_vn hg n)
noncomputable def ref08_Tables_Full_s : TSum := ref08_Tables_Full_sr ref08_Tables_Full
theorem ref08_Tables_Full_v {gl : Glob} (hg : Gs gl) : ValidS Go.Proofs.Tryz.prog gl 19 ref08_Tables_Full_s := ref08_Tables_Full_vn hg 64
end Go.Tx

/- Printed by the driver (wip/drv): the contracts of Go functions, checked. -/
set_option linter.all false
set_option linter.unusedVariables false
set_option maxRecDepth 100000
set_option maxHeartbeats 0
namespace Go.Tx
open Go Go.Sx
/-! (*sabretache/tables.Tables).Pairs -/
noncomputable def tables_Tables_Pairs_l5 : Loop1 := ⟨⟨[.b (.int .i64), .b (.int .i64), .r [.b (.int .u32), .s 22 [.int .u32], .b .bool, .b .bool], .r [.b (.int .u32), .b (.int .u32), .b .str, .b .str, .b .str, .b .bool], .r [.b (.int .u32), .b (.int .u32), .b (.int .u32)], .r [.b (.int .u32), .b (.int .u32), .b (.int .u32)], .r [.b (.int .u32), .b (.int .u32), .b (.int .u32)], .r [.b .str, .b (.int .u32), .b (.int .u32)], .r [.b (.int .u32), .b (.int .u32), .b (.int .u32)]], 48, [(3, (.own 5000)), (12, (.own 3)), (13, .v), (14, .v)], [⟨3, 0, .row true 68 [.b (.int .u32), .s 22 [.int .u32], .b .bool, .b .bool]⟩, ⟨0, 0, .cells [(.own 1), (.own 2), (.own 3), (.own 4), (.own 5), (.own 6)]⟩, ⟨1, 0, .row true 98 [.b (.int .u32), .b (.int .u32), .b .str, .b .str, .b .str, .b .bool]⟩, ⟨2, 0, .row true 85 [.b (.int .u32), .b (.int .u32), .b (.int .u32)]⟩, ⟨4, 0, .row true 87 [.b (.int .u32), .b (.int .u32), .b (.int .u32)]⟩, ⟨5, 0, .row true 87 [.b (.int .u32), .b (.int .u32), .b (.int .u32)]⟩, ⟨6, 0, .row true 100 [.b .str, .b (.int .u32), .b (.int .u32)]⟩, ⟨5000, 0, .row true 129 [.b (.int .u32), .b (.int .u32), .b (.int .u32)]⟩]⟩, [(.exit 0, ⟨[.r [.b (.int .u32), .b (.int .u32), .b (.int .u32)], .r [.b (.int .u32), .s 22 [.int .u32], .b .bool, .b .bool], .r [.b (.int .u32), .b (.int .u32), .b .str, .b .str, .b .str, .b .bool], .r [.b (.int .u32), .b (.int .u32), .b (.int .u32)], .r [.b (.int .u32), .b (.int .u32), .b (.int .u32)], .r [.b (.int .u32), .b (.int .u32), .b (.int .u32)], .r [.b .str, .b (.int .u32), .b (.int .u32)]], 48, [(3, (.own 5000))], [⟨5000, 0, .row true 129 [.b (.int .u32), .b (.int .u32), .b (.int .u32)]⟩, ⟨3, 0, .row true 68 [.b (.int .u32), .s 22 [.int .u32], .b .bool, .b .bool]⟩, ⟨0, 0, .cells [(.own 1), (.own 2), (.own 3), (.own 4), (.own 5), (.own 6)]⟩, ⟨1, 0, .row true 98 [.b (.int .u32), .b (.int .u32), .b .str, .b .str, .b .str, .b .bool]⟩, ⟨2, 0, .row true 85 [.b (.int .u32), .b (.int .u32), .b (.int .u32)]⟩, ⟨4, 0, .row true 87 [.b (.int .u32), .b (.int .u32), .b (.int .u32)]⟩, ⟨5, 0, .row true 87 [.b (.int .u32), .b (.int .u32), .b (.int .u32)]⟩, ⟨6, 0, .row true 100 [.b .str, .b (.int .u32), .b (.int .u32)]⟩]⟩)], tables_Tables_Pairs_b5⟩
noncomputable def tables_Tables_Pairs_i : Pat := ⟨[.r [.b (.int .u32), .b (.int .u32), .b .str, .b .str, .b .str, .b .bool], .r [.b (.int .u32), .b (.int .u32), .b (.int .u32)], .r [.b (.int .u32), .s 22 [.int .u32], .b .bool, .b .bool], .r [.b (.int .u32), .b (.int .u32), .b (.int .u32)], .r [.b (.int .u32), .b (.int .u32), .b (.int .u32)], .r [.b .str, .b (.int .u32), .b (.int .u32)]], 48, [(0, (.ptr 0 0))], [⟨0, 0, .cells [(.own 1), (.own 2), (.own 3), (.own 4), (.own 5), (.own 6)]⟩, ⟨1, 0, .row true 98 [.b (.int .u32), .b (.int .u32), .b .str, .b .str, .b .str, .b .bool]⟩, ⟨2, 0, .row true 85 [.b (.int .u32), .b (.int .u32), .b (.int .u32)]⟩, ⟨3, 0, .row true 68 [.b (.int .u32), .s 22 [.int .u32], .b .bool, .b .bool]⟩, ⟨4, 0, .row true 87 [.b (.int .u32), .b (.int .u32), .b (.int .u32)]⟩, ⟨5, 0, .row true 87 [.b (.int .u32), .b (.int .u32), .b (.int .u32)]⟩, ⟨6, 0, .row true 100 [.b .str, .b (.int .u32), .b (.int .u32)]⟩]⟩
noncomputable def tables_Tables_Pairs_o : Exits := [(.ret, ⟨[.r [.b (.int .u32), .b (.int .u32), .b (.int .u32)], .r [.b (.int .u32), .s 22 [.int .u32], .b .bool, .b .bool], .r [.b (.int .u32), .b (.int .u32), .b .str, .b .str, .b .str, .b .bool], .r [.b (.int .u32), .b (.int .u32), .b (.int .u32)], .r [.b (.int .u32), .b (.int .u32), .b (.int .u32)], .r [.b (.int .u32), .b (.int .u32), .b (.int .u32)], .r [.b .str, .b (.int .u32), .b (.int .u32)]], 48, [(2, (.own 5000))], [⟨5000, 0, .row true 129 [.b (.int .u32), .b (.int .u32), .b (.int .u32)]⟩, ⟨3, 0, .row true 68 [.b (.int .u32), .s 22 [.int .u32], .b .bool, .b .bool]⟩, ⟨0, 0, .cells [(.own 1), (.own 2), (.own 3), (.own 4), (.own 5), (.own 6)]⟩, ⟨1, 0, .row true 98 [.b (.int .u32), .b (.int .u32), .b .str, .b .str, .b .str, .b .bool]⟩, ⟨2, 0, .row true 85 [.b (.int .u32), .b (.int .u32), .b (.int .u32)]⟩, ⟨4, 0, .row true 87 [.b (.int .u32), .b (.int .u32), .b (.int .u32)]⟩, ⟨5, 0, .row true 87 [.b (.int .u32), .b (.int .u32), .b (.int .u32)]⟩, ⟨6, 0, .row true 100 [.b .str, .b (.int .u32), .b (.int .u32)]⟩]⟩)]
noncomputable def tables_Tables_Pairs_s : TSum := TSum.of (baseC (fun _ => none) (fun _ => [])) (Go.Proofs.Tryz.f21.results.toList) 7 tables_Tables_Pairs_i tables_Tables_Pairs_o (fun v => tables_Tables_Pairs v.1 v.2.1 v.2.2.1 v.2.2.2.1 v.2.2.2.2.1 v.2.2.2.2.2)
noncomputable def tables_Tables_Pairs_z : Code := Option.getD Go.Proofs.Tryz.f21.body .skip
noncomputable def tables_Tables_Pairs_x (gl : Glob) : TCtx := { baseC gl (lookS []) with inl := lookI [], fuel := 0, loops := lookL [(5, tables_Tables_Pairs_l5)], cuts := lookL [] }
theorem tables_Tables_Pairs_v {gl : Glob} (hg : Gs gl) : ValidS Go.Proofs.Tryz.prog gl 21 tables_Tables_Pairs_s := by
  refine validS_of (c := tables_Tables_Pairs_x gl) ?_ hm_ Go.Proofs.Tryz.func21 (body := tables_Tables_Pairs_z) ?_ ?_ ?_ ?_ ?_ ?_ ?_ ?_ ?_
  · exact tok_of tyB_ok cmpB_ok .nil .nil
  · kernel_rfl
  · rfl
  · exact annOK_by (l := [∀ v, tables_Tables_Pairs_l5.body v = (roundT (tables_Tables_Pairs_x gl) tables_Tables_Pairs_l5.pat tables_Tables_Pairs_l5.exits (subAt [1, 1, 1, 0, 1, 0, 0] tables_Tables_Pairs_z) v).run]) (by kernel_rfl) (⟨fun (a0, a1, a2, a3, a4, a5, a6, a7, a8) => Eq.symm (by kernel_rfl), trivial⟩)
  · exact fun (a0, a1, a2, a3, a4, a5) => Eq.symm (by kernel_rfl)
  · kernel_rfl
  · kernel_rfl
  · exact exitX_of (.cons (fun v => by kernel_rfl) .nil)
  · rfl
  · rfl
/-! sabretache/sabretacheref06.Two -/
noncomputable def ref06_Two_l4 : Loop1 := ⟨⟨[.b (.int .u32), .b (.int .u32), .b (.int .u32), .b .bool, .b (.int .i64), .r [.b (.int .u32), .b (.int .u32), .b (.int .u32)]], 42, [(0, (.own 0)), (1, .v), (2, .v), (8, .v), (9, .v), (10, .v)], [⟨0, 0, .row true 129 [.b (.int .u32), .b (.int .u32), .b (.int .u32)]⟩]⟩, [(.exit 0, ⟨[.b (.int .u32), .b .bool, .r [.b (.int .u32), .b (.int .u32), .b (.int .u32)]], 42, [(8, .v), (9, .v)], [⟨0, 0, .row true 129 [.b (.int .u32), .b (.int .u32), .b (.int .u32)]⟩]⟩)], ref06_Two_b4⟩
noncomputable def ref06_Two_i : Pat := ⟨[.b (.int .u32), .b (.int .u32), .r [.b (.int .u32), .b (.int .u32), .b (.int .u32)]], 42, [(0, (.own 0)), (1, .v), (2, .v)], [⟨0, 0, .row true 129 [.b (.int .u32), .b (.int .u32), .b (.int .u32)]⟩]⟩
noncomputable def ref06_Two_o : Exits := [(.ret, ⟨[.b (.int .u32), .b .bool, .r [.b (.int .u32), .b (.int .u32), .b (.int .u32)]], 42, [(6, .v), (7, .v)], [⟨0, 0, .row true 129 [.b (.int .u32), .b (.int .u32), .b (.int .u32)]⟩]⟩)]
noncomputable def ref06_Two_s : TSum := TSum.of (baseC (fun _ => none) (fun _ => [])) (Go.Proofs.Tryz.f20.results.toList) 1 ref06_Two_i ref06_Two_o (fun v => ref06_Two v.1 v.2.1 v.2.2)
noncomputable def ref06_Two_z : Code := Option.getD Go.Proofs.Tryz.f20.body .skip
noncomputable def ref06_Two_x (gl : Glob) : TCtx := { baseC gl (lookS []) with inl := lookI [], fuel := 0, loops := lookL [(4, ref06_Two_l4)], cuts := lookL [] }
theorem ref06_Two_v {gl : Glob} (hg : Gs gl) : ValidS Go.Proofs.Tryz.prog gl 20 ref06_Two_s := by
  refine validS_of (c := ref06_Two_x gl) ?_ hm_ Go.Proofs.Tryz.func20 (body := ref06_Two_z) ?_ ?_ ?_ ?_ ?_ ?_ ?_ ?_ ?_
  · exact tok_of tyB_ok cmpB_ok .nil .nil
  · kernel_rfl
  · rfl
  · exact annOK_by (l := [∀ v, ref06_Two_l4.body v = (roundT (ref06_Two_x gl) ref06_Two_l4.pat ref06_Two_l4.exits (subAt [1, 1, 1, 0, 1, 0, 0] ref06_Two_z) v).run]) (by kernel_rfl) (⟨fun (a0, a1, a2, a3, a4, a5) => Eq.symm (by kernel_rfl), trivial⟩)
  · exact fun (a0, a1, a2) => Eq.symm (by kernel_rfl)
  · kernel_rfl
  · kernel_rfl
  · exact exitX_of (.cons (fun v => by kernel_rfl) .nil)
  · rfl
  · rfl
/-! (sabretache/sabretacheref08.Tables).Pair -/
noncomputable def ref08_Tables_Pair_l2 : Loop1 := ⟨⟨[.b (.int .u32), .b (.int .u32), .b (.int .i64), .r [.b (.int .u32), .b (.int .u32), .b .str, .b .str, .b .str, .b .bool], .r [.b (.int .u32), .b (.int .u32), .b (.int .u32)], .r [.b (.int .u32), .s 22 [.int .u32], .b .bool, .b .bool], .r [.b (.int .u32), .b (.int .u32), .b (.int .u32)], .r [.b (.int .u32), .b (.int .u32), .b (.int .u32)], .r [.b .str, .b (.int .u32), .b (.int .u32)]], 54, [(1, .v), (2, .v), (3, (.ptr 103 0)), (8, .v)], [⟨103, 0, .cells [(.own 0), (.own 1), (.own 2), (.own 3), (.own 4), (.own 5)]⟩, ⟨0, 0, .row true 98 [.b (.int .u32), .b (.int .u32), .b .str, .b .str, .b .str, .b .bool]⟩, ⟨1, 0, .row true 85 [.b (.int .u32), .b (.int .u32), .b (.int .u32)]⟩, ⟨2, 0, .row true 68 [.b (.int .u32), .s 22 [.int .u32], .b .bool, .b .bool]⟩, ⟨3, 0, .row true 87 [.b (.int .u32), .b (.int .u32), .b (.int .u32)]⟩, ⟨4, 0, .row true 87 [.b (.int .u32), .b (.int .u32), .b (.int .u32)]⟩, ⟨5, 0, .row true 100 [.b .str, .b (.int .u32), .b (.int .u32)]⟩]⟩, [(.ret, ⟨[.b (.int .u32), .b .bool, .r [.b (.int .u32), .b (.int .u32), .b .str, .b .str, .b .str, .b .bool], .r [.b (.int .u32), .b (.int .u32), .b (.int .u32)], .r [.b (.int .u32), .s 22 [.int .u32], .b .bool, .b .bool], .r [.b (.int .u32), .b (.int .u32), .b (.int .u32)], .r [.b (.int .u32), .b (.int .u32), .b (.int .u32)], .r [.b .str, .b (.int .u32), .b (.int .u32)]], 54, [(6, .v), (7, .v)], [⟨0, 0, .row true 98 [.b (.int .u32), .b (.int .u32), .b .str, .b .str, .b .str, .b .bool]⟩, ⟨1, 0, .row true 85 [.b (.int .u32), .b (.int .u32), .b (.int .u32)]⟩, ⟨2, 0, .row true 68 [.b (.int .u32), .s 22 [.int .u32], .b .bool, .b .bool]⟩, ⟨3, 0, .row true 87 [.b (.int .u32), .b (.int .u32), .b (.int .u32)]⟩, ⟨4, 0, .row true 87 [.b (.int .u32), .b (.int .u32), .b (.int .u32)]⟩, ⟨5, 0, .row true 100 [.b .str, .b (.int .u32), .b (.int .u32)]⟩]⟩), (.exit 0, ⟨[.r [.b (.int .u32), .b (.int .u32), .b .str, .b .str, .b .str, .b .bool], .r [.b (.int .u32), .b (.int .u32), .b (.int .u32)], .r [.b (.int .u32), .s 22 [.int .u32], .b .bool, .b .bool], .r [.b (.int .u32), .b (.int .u32), .b (.int .u32)], .r [.b (.int .u32), .b (.int .u32), .b (.int .u32)], .r [.b .str, .b (.int .u32), .b (.int .u32)]], 54, [], [⟨0, 0, .row true 98 [.b (.int .u32), .b (.int .u32), .b .str, .b .str, .b .str, .b .bool]⟩, ⟨1, 0, .row true 85 [.b (.int .u32), .b (.int .u32), .b (.int .u32)]⟩, ⟨2, 0, .row true 68 [.b (.int .u32), .s 22 [.int .u32], .b .bool, .b .bool]⟩, ⟨3, 0, .row true 87 [.b (.int .u32), .b (.int .u32), .b (.int .u32)]⟩, ⟨4, 0, .row true 87 [.b (.int .u32), .b (.int .u32), .b (.int .u32)]⟩, ⟨5, 0, .row true 100 [.b .str, .b (.int .u32), .b (.int .u32)]⟩]⟩)], ref08_Tables_Pair_b2⟩
noncomputable def ref08_Tables_Pair_i : Pat := ⟨[.b (.int .u32), .b (.int .u32), .r [.b (.int .u32), .b (.int .u32), .b .str, .b .str, .b .str, .b .bool], .r [.b (.int .u32), .b (.int .u32), .b (.int .u32)], .r [.b (.int .u32), .s 22 [.int .u32], .b .bool, .b .bool], .r [.b (.int .u32), .b (.int .u32), .b (.int .u32)], .r [.b (.int .u32), .b (.int .u32), .b (.int .u32)], .r [.b .str, .b (.int .u32), .b (.int .u32)]], 54, [(0, (.agg [(.own 0), (.own 1), (.own 2), (.own 3), (.own 4), (.own 5)])), (1, .v), (2, .v)], [⟨0, 0, .row true 98 [.b (.int .u32), .b (.int .u32), .b .str, .b .str, .b .str, .b .bool]⟩, ⟨1, 0, .row true 85 [.b (.int .u32), .b (.int .u32), .b (.int .u32)]⟩, ⟨2, 0, .row true 68 [.b (.int .u32), .s 22 [.int .u32], .b .bool, .b .bool]⟩, ⟨3, 0, .row true 87 [.b (.int .u32), .b (.int .u32), .b (.int .u32)]⟩, ⟨4, 0, .row true 87 [.b (.int .u32), .b (.int .u32), .b (.int .u32)]⟩, ⟨5, 0, .row true 100 [.b .str, .b (.int .u32), .b (.int .u32)]⟩]⟩
noncomputable def ref08_Tables_Pair_o : Exits := [(.ret, ⟨[.b (.int .u32), .b .bool, .r [.b (.int .u32), .b (.int .u32), .b .str, .b .str, .b .str, .b .bool], .r [.b (.int .u32), .b (.int .u32), .b (.int .u32)], .r [.b (.int .u32), .s 22 [.int .u32], .b .bool, .b .bool], .r [.b (.int .u32), .b (.int .u32), .b (.int .u32)], .r [.b (.int .u32), .b (.int .u32), .b (.int .u32)], .r [.b .str, .b (.int .u32), .b (.int .u32)]], 54, [(6, .v), (7, .v)], [⟨0, 0, .row true 98 [.b (.int .u32), .b (.int .u32), .b .str, .b .str, .b .str, .b .bool]⟩, ⟨1, 0, .row true 85 [.b (.int .u32), .b (.int .u32), .b (.int .u32)]⟩, ⟨2, 0, .row true 68 [.b (.int .u32), .s 22 [.int .u32], .b .bool, .b .bool]⟩, ⟨3, 0, .row true 87 [.b (.int .u32), .b (.int .u32), .b (.int .u32)]⟩, ⟨4, 0, .row true 87 [.b (.int .u32), .b (.int .u32), .b (.int .u32)]⟩, ⟨5, 0, .row true 100 [.b .str, .b (.int .u32), .b (.int .u32)]⟩]⟩)]
noncomputable def ref08_Tables_Pair_s : TSum := TSum.of (baseC (fun _ => none) (fun _ => [])) (Go.Proofs.Tryz.f22.results.toList) 6 ref08_Tables_Pair_i ref08_Tables_Pair_o (fun v => ref08_Tables_Pair v.1 v.2.1 v.2.2.1 v.2.2.2.1 v.2.2.2.2.1 v.2.2.2.2.2.1 v.2.2.2.2.2.2.1 v.2.2.2.2.2.2.2)
noncomputable def ref08_Tables_Pair_z : Code := Option.getD Go.Proofs.Tryz.f22.body .skip
noncomputable def ref08_Tables_Pair_x (gl : Glob) : TCtx := { baseC gl (lookS []) with inl := lookI [], fuel := 0, loops := lookL [(2, ref08_Tables_Pair_l2)], cuts := lookL [] }
theorem ref08_Tables_Pair_v {gl : Glob} (hg : Gs gl) : ValidS Go.Proofs.Tryz.prog gl 22 ref08_Tables_Pair_s := by
  refine validS_of (c := ref08_Tables_Pair_x gl) ?_ hm_ Go.Proofs.Tryz.func22 (body := ref08_Tables_Pair_z) ?_ ?_ ?_ ?_ ?_ ?_ ?_ ?_ ?_
  · exact tok_of tyB_ok cmpB_ok .nil .nil
  · kernel_rfl
  · rfl
  · exact annOK_by (l := [∀ v, ref08_Tables_Pair_l2.body v = (roundT (ref08_Tables_Pair_x gl) ref08_Tables_Pair_l2.pat ref08_Tables_Pair_l2.exits (subAt [1, 0, 1, 0, 0] ref08_Tables_Pair_z) v).run]) (by kernel_rfl) (⟨fun (a0, a1, a2, a3, a4, a5, a6, a7, a8) => Eq.symm (by kernel_rfl), trivial⟩)
  · exact fun (a0, a1, a2, a3, a4, a5, a6, a7) => Eq.symm (by kernel_rfl)
  · kernel_rfl
  · kernel_rfl
  · exact exitX_of (.cons (fun v => by kernel_rfl) .nil)
  · rfl
  · rfl
/-! slices.Clone[[]sabretache/seek.Run,sabretache/seek.Run] -/
noncomputable def slices_Clone___i : Pat := ⟨[.r [.b (.int .u32), .b (.int .u32), .b (.int .u32)]], 8, [(0, (.own 0))], [⟨0, 0, .row true 87 [.b (.int .u32), .b (.int .u32), .b (.int .u32)]⟩]⟩
noncomputable def slices_Clone___o : Exits := [(.ret, ⟨[.r [.b (.int .u32), .b (.int .u32), .b (.int .u32)], .r [.b (.int .u32), .b (.int .u32), .b (.int .u32)]], 8, [(2, (.own 105))], [⟨105, 0, .row true 87 [.b (.int .u32), .b (.int .u32), .b (.int .u32)]⟩, ⟨0, 0, .row true 87 [.b (.int .u32), .b (.int .u32), .b (.int .u32)]⟩]⟩)]
noncomputable def slices_Clone___s : TSum := TSum.of (baseC (fun _ => none) (fun _ => [])) (Go.Proofs.Tryz.f73.results.toList) 1 slices_Clone___i slices_Clone___o (fun v => slices_Clone__ v)
noncomputable def slices_Clone___z : Code := Option.getD Go.Proofs.Tryz.f73.body .skip
noncomputable def slices_Clone___x (gl : Glob) : TCtx := { baseC gl (lookS []) with inl := lookI [], fuel := 0, loops := lookL [], cuts := lookL [] }
theorem slices_Clone___v {gl : Glob} (hg : Gs gl) : ValidS Go.Proofs.Tryz.prog gl 73 slices_Clone___s := by
  refine validS_of (c := slices_Clone___x gl) ?_ hm_ Go.Proofs.Tryz.func73 (body := slices_Clone___z) ?_ ?_ ?_ ?_ ?_ ?_ ?_ ?_ ?_
  · exact tok_of tyB_ok cmpB_ok .nil .nil
  · kernel_rfl
  · rfl
  · exact annOK_by (l := []) (by kernel_rfl) (trivial)
  · exact fun v => Eq.symm (by kernel_rfl)
  · kernel_rfl
  · kernel_rfl
  · exact exitX_of (.cons (fun v => by kernel_rfl) .nil)
  · rfl
  · rfl
/-! (*sabretache/tables.Tables).Lowers -/
noncomputable def tables_Tables_Lowers_i : Pat := ⟨[.r [.b (.int .u32), .b (.int .u32), .b .str, .b .str, .b .str, .b .bool], .r [.b (.int .u32), .b (.int .u32), .b (.int .u32)], .r [.b (.int .u32), .s 22 [.int .u32], .b .bool, .b .bool], .r [.b (.int .u32), .b (.int .u32), .b (.int .u32)], .r [.b (.int .u32), .b (.int .u32), .b (.int .u32)], .r [.b .str, .b (.int .u32), .b (.int .u32)]], 10, [(0, (.ptr 0 0))], [⟨0, 0, .cells [(.own 1), (.own 2), (.own 3), (.own 4), (.own 5), (.own 6)]⟩, ⟨1, 0, .row true 98 [.b (.int .u32), .b (.int .u32), .b .str, .b .str, .b .str, .b .bool]⟩, ⟨2, 0, .row true 85 [.b (.int .u32), .b (.int .u32), .b (.int .u32)]⟩, ⟨3, 0, .row true 68 [.b (.int .u32), .s 22 [.int .u32], .b .bool, .b .bool]⟩, ⟨4, 0, .row true 87 [.b (.int .u32), .b (.int .u32), .b (.int .u32)]⟩, ⟨5, 0, .row true 87 [.b (.int .u32), .b (.int .u32), .b (.int .u32)]⟩, ⟨6, 0, .row true 100 [.b .str, .b (.int .u32), .b (.int .u32)]⟩]⟩
noncomputable def tables_Tables_Lowers_o : Exits := [(.ret, ⟨[.r [.b (.int .u32), .b (.int .u32), .b (.int .u32)], .r [.b (.int .u32), .b (.int .u32), .b .str, .b .str, .b .str, .b .bool], .r [.b (.int .u32), .b (.int .u32), .b (.int .u32)], .r [.b (.int .u32), .s 22 [.int .u32], .b .bool, .b .bool], .r [.b (.int .u32), .b (.int .u32), .b (.int .u32)], .r [.b (.int .u32), .b (.int .u32), .b (.int .u32)], .r [.b .str, .b (.int .u32), .b (.int .u32)]], 10, [(2, (.own 1090))], [⟨1090, 0, .row true 87 [.b (.int .u32), .b (.int .u32), .b (.int .u32)]⟩, ⟨0, 0, .cells [(.own 1), (.own 2), (.own 3), (.own 4), (.own 5), (.own 6)]⟩, ⟨1, 0, .row true 98 [.b (.int .u32), .b (.int .u32), .b .str, .b .str, .b .str, .b .bool]⟩, ⟨2, 0, .row true 85 [.b (.int .u32), .b (.int .u32), .b (.int .u32)]⟩, ⟨3, 0, .row true 68 [.b (.int .u32), .s 22 [.int .u32], .b .bool, .b .bool]⟩, ⟨4, 0, .row true 87 [.b (.int .u32), .b (.int .u32), .b (.int .u32)]⟩, ⟨5, 0, .row true 87 [.b (.int .u32), .b (.int .u32), .b (.int .u32)]⟩, ⟨6, 0, .row true 100 [.b .str, .b (.int .u32), .b (.int .u32)]⟩]⟩)]
noncomputable def tables_Tables_Lowers_s : TSum := TSum.of (baseC (fun _ => none) (fun _ => [])) (Go.Proofs.Tryz.f24.results.toList) 7 tables_Tables_Lowers_i tables_Tables_Lowers_o (fun v => tables_Tables_Lowers v.1 v.2.1 v.2.2.1 v.2.2.2.1 v.2.2.2.2.1 v.2.2.2.2.2)
noncomputable def tables_Tables_Lowers_z : Code := Option.getD Go.Proofs.Tryz.f24.body .skip
noncomputable def tables_Tables_Lowers_x (gl : Glob) : TCtx := { baseC gl (lookS [(73, [slices_Clone___s])]) with inl := lookI [], fuel := 0, loops := lookL [], cuts := lookL [] }
theorem tables_Tables_Lowers_v {gl : Glob} (hg : Gs gl) : ValidS Go.Proofs.Tryz.prog gl 24 tables_Tables_Lowers_s := by
  refine validS_of (c := tables_Tables_Lowers_x gl) ?_ hm_ Go.Proofs.Tryz.func24 (body := tables_Tables_Lowers_z) ?_ ?_ ?_ ?_ ?_ ?_ ?_ ?_ ?_
  · exact tok_of tyB_ok cmpB_ok (.cons (.cons (slices_Clone___v hg) .nil) (hb_ 73 Go.Proofs.Tryz.func73 (by kernel_rfl) (by kernel_rfl)) .nil) .nil
  · kernel_rfl
  · rfl
  · exact annOK_by (l := []) (by kernel_rfl) (trivial)
  · exact fun (a0, a1, a2, a3, a4, a5) => Eq.symm (by kernel_rfl)
  · kernel_rfl
  · kernel_rfl
  · exact exitX_of (.cons (fun v => by kernel_rfl) .nil)
  · rfl
  · rfl
/-! sabretache/sabretacheref06.Has -/
noncomputable def ref06_Has_i : Pat := ⟨[.b (.int .u32), .b (.int .u32), .b (.int .u32)], 15, [(0, (.agg [.v, .v])), (1, .v)], []⟩
noncomputable def ref06_Has_o : Exits := [(.ret, ⟨[.b .bool], 15, [(4, .v)], []⟩)]
noncomputable def ref06_Has_s : TSum := TSum.of (baseC (fun _ => none) (fun _ => [])) (Go.Proofs.Tryz.f72.results.toList) 0 ref06_Has_i ref06_Has_o (fun v => ref06_Has v.1 v.2.1 v.2.2)
noncomputable def ref06_Has_z : Code := Option.getD Go.Proofs.Tryz.f72.body .skip
noncomputable def ref06_Has_x (gl : Glob) : TCtx := { baseC gl (lookS []) with inl := lookI [], fuel := 0, loops := lookL [], cuts := lookL [] }
theorem ref06_Has_v {gl : Glob} (hg : Gs gl) : ValidS Go.Proofs.Tryz.prog gl 72 ref06_Has_s := by
  refine validS_of (c := ref06_Has_x gl) ?_ hm_ Go.Proofs.Tryz.func72 (body := ref06_Has_z) ?_ ?_ ?_ ?_ ?_ ?_ ?_ ?_ ?_
  · exact tok_of tyB_ok cmpB_ok .nil .nil
  · kernel_rfl
  · rfl
  · exact annOK_by (l := []) (by kernel_rfl) (trivial)
  · exact fun (a0, a1, a2) => Eq.symm (by kernel_rfl)
  · kernel_rfl
  · kernel_rfl
  · exact exitX_of (.cons (fun v => by kernel_rfl) .nil)
  · rfl
  · rfl
/-! sabretache/sabretacheref06.Map -/
noncomputable def ref06_Map_l2 : Loop1 := ⟨⟨[.b (.int .u32), .b (.int .i64), .r [.b (.int .u32), .b (.int .u32), .b (.int .u32)]], 36, [(0, (.own 0)), (1, .v), (6, .v)], [⟨0, 0, .row true 87 [.b (.int .u32), .b (.int .u32), .b (.int .u32)]⟩]⟩, [(.exit 0, ⟨[.b (.int .u32), .r [.b (.int .u32), .b (.int .u32), .b (.int .u32)]], 36, [(1, .v)], [⟨0, 0, .row true 87 [.b (.int .u32), .b (.int .u32), .b (.int .u32)]⟩]⟩), (.ret, ⟨[.b (.int .u32), .b .bool, .r [.b (.int .u32), .b (.int .u32), .b (.int .u32)]], 36, [(4, .v), (5, .v)], [⟨0, 0, .row true 87 [.b (.int .u32), .b (.int .u32), .b (.int .u32)]⟩]⟩)], ref06_Map_b2⟩
noncomputable def ref06_Map_i : Pat := ⟨[.b (.int .u32), .r [.b (.int .u32), .b (.int .u32), .b (.int .u32)]], 36, [(0, (.own 0)), (1, .v)], [⟨0, 0, .row true 87 [.b (.int .u32), .b (.int .u32), .b (.int .u32)]⟩]⟩
noncomputable def ref06_Map_o : Exits := [(.ret, ⟨[.b (.int .u32), .b .bool, .r [.b (.int .u32), .b (.int .u32), .b (.int .u32)]], 36, [(4, .v), (5, .v)], [⟨0, 0, .row true 87 [.b (.int .u32), .b (.int .u32), .b (.int .u32)]⟩]⟩)]
noncomputable def ref06_Map_s : TSum := TSum.of (baseC (fun _ => none) (fun _ => [])) (Go.Proofs.Tryz.f23.results.toList) 1 ref06_Map_i ref06_Map_o (fun v => ref06_Map v.1 v.2)
noncomputable def ref06_Map_z : Code := Option.getD Go.Proofs.Tryz.f23.body .skip
noncomputable def ref06_Map_x (gl : Glob) : TCtx := { baseC gl (lookS [(72, [ref06_Has_s])]) with inl := lookI [], fuel := 0, loops := lookL [(2, ref06_Map_l2)], cuts := lookL [] }
theorem ref06_Map_v {gl : Glob} (hg : Gs gl) : ValidS Go.Proofs.Tryz.prog gl 23 ref06_Map_s := by
  refine validS_of (c := ref06_Map_x gl) ?_ hm_ Go.Proofs.Tryz.func23 (body := ref06_Map_z) ?_ ?_ ?_ ?_ ?_ ?_ ?_ ?_ ?_
  · exact tok_of tyB_ok cmpB_ok (.cons (.cons (ref06_Has_v hg) .nil) (hb_ 72 Go.Proofs.Tryz.func72 (by kernel_rfl) (by kernel_rfl)) .nil) .nil
  · kernel_rfl
  · rfl
  · exact annOK_by (l := [∀ v, ref06_Map_l2.body v = (roundT (ref06_Map_x gl) ref06_Map_l2.pat ref06_Map_l2.exits (subAt [1, 0, 1, 0, 0] ref06_Map_z) v).run]) (by kernel_rfl) (⟨fun (a0, a1, a2) => Eq.symm (by kernel_rfl), trivial⟩)
  · exact fun (a0, a1) => Eq.symm (by kernel_rfl)
  · kernel_rfl
  · kernel_rfl
  · exact exitX_of (.cons (fun v => by kernel_rfl) .nil)
  · rfl
  · rfl
/-! (*sabretache/tables.Tables).Widths -/
noncomputable def tables_Tables_Widths_i : Pat := ⟨[.r [.b (.int .u32), .b (.int .u32), .b .str, .b .str, .b .str, .b .bool], .r [.b (.int .u32), .b (.int .u32), .b (.int .u32)], .r [.b (.int .u32), .s 22 [.int .u32], .b .bool, .b .bool], .r [.b (.int .u32), .b (.int .u32), .b (.int .u32)], .r [.b (.int .u32), .b (.int .u32), .b (.int .u32)], .r [.b .str, .b (.int .u32), .b (.int .u32)]], 10, [(0, (.ptr 0 0))], [⟨0, 0, .cells [(.own 1), (.own 2), (.own 3), (.own 4), (.own 5), (.own 6)]⟩, ⟨1, 0, .row true 98 [.b (.int .u32), .b (.int .u32), .b .str, .b .str, .b .str, .b .bool]⟩, ⟨2, 0, .row true 85 [.b (.int .u32), .b (.int .u32), .b (.int .u32)]⟩, ⟨3, 0, .row true 68 [.b (.int .u32), .s 22 [.int .u32], .b .bool, .b .bool]⟩, ⟨4, 0, .row true 87 [.b (.int .u32), .b (.int .u32), .b (.int .u32)]⟩, ⟨5, 0, .row true 87 [.b (.int .u32), .b (.int .u32), .b (.int .u32)]⟩, ⟨6, 0, .row true 100 [.b .str, .b (.int .u32), .b (.int .u32)]⟩]⟩
noncomputable def tables_Tables_Widths_o : Exits := [(.ret, ⟨[.r [.b (.int .u32), .b (.int .u32), .b (.int .u32)], .r [.b (.int .u32), .b (.int .u32), .b .str, .b .str, .b .str, .b .bool], .r [.b (.int .u32), .b (.int .u32), .b (.int .u32)], .r [.b (.int .u32), .s 22 [.int .u32], .b .bool, .b .bool], .r [.b (.int .u32), .b (.int .u32), .b (.int .u32)], .r [.b (.int .u32), .b (.int .u32), .b (.int .u32)], .r [.b .str, .b (.int .u32), .b (.int .u32)]], 10, [(2, (.own 1090))], [⟨1090, 0, .row true 87 [.b (.int .u32), .b (.int .u32), .b (.int .u32)]⟩, ⟨0, 0, .cells [(.own 1), (.own 2), (.own 3), (.own 4), (.own 5), (.own 6)]⟩, ⟨1, 0, .row true 98 [.b (.int .u32), .b (.int .u32), .b .str, .b .str, .b .str, .b .bool]⟩, ⟨2, 0, .row true 85 [.b (.int .u32), .b (.int .u32), .b (.int .u32)]⟩, ⟨3, 0, .row true 68 [.b (.int .u32), .s 22 [.int .u32], .b .bool, .b .bool]⟩, ⟨4, 0, .row true 87 [.b (.int .u32), .b (.int .u32), .b (.int .u32)]⟩, ⟨5, 0, .row true 87 [.b (.int .u32), .b (.int .u32), .b (.int .u32)]⟩, ⟨6, 0, .row true 100 [.b .str, .b (.int .u32), .b (.int .u32)]⟩]⟩)]
noncomputable def tables_Tables_Widths_s : TSum := TSum.of (baseC (fun _ => none) (fun _ => [])) (Go.Proofs.Tryz.f25.results.toList) 7 tables_Tables_Widths_i tables_Tables_Widths_o (fun v => tables_Tables_Widths v.1 v.2.1 v.2.2.1 v.2.2.2.1 v.2.2.2.2.1 v.2.2.2.2.2)
noncomputable def tables_Tables_Widths_z : Code := Option.getD Go.Proofs.Tryz.f25.body .skip
noncomputable def tables_Tables_Widths_x (gl : Glob) : TCtx := { baseC gl (lookS [(73, [slices_Clone___s])]) with inl := lookI [], fuel := 0, loops := lookL [], cuts := lookL [] }
theorem tables_Tables_Widths_v {gl : Glob} (hg : Gs gl) : ValidS Go.Proofs.Tryz.prog gl 25 tables_Tables_Widths_s := by
  refine validS_of (c := tables_Tables_Widths_x gl) ?_ hm_ Go.Proofs.Tryz.func25 (body := tables_Tables_Widths_z) ?_ ?_ ?_ ?_ ?_ ?_ ?_ ?_ ?_
  · exact tok_of tyB_ok cmpB_ok (.cons (.cons (slices_Clone___v hg) .nil) (hb_ 73 Go.Proofs.Tryz.func73 (by kernel_rfl) (by kernel_rfl)) .nil) .nil
  · kernel_rfl
  · rfl
  · exact annOK_by (l := []) (by kernel_rfl) (trivial)
  · exact fun (a0, a1, a2, a3, a4, a5) => Eq.symm (by kernel_rfl)
  · kernel_rfl
  · kernel_rfl
  · exact exitX_of (.cons (fun v => by kernel_rfl) .nil)
  · rfl
  · rfl
/-! slices.Clone[[]sabretache/seek.Weight,sabretache/seek.Weight] -/
noncomputable def slices_Clone___i2_i : Pat := ⟨[.r [.b (.int .u32), .b (.int .u32), .b (.int .u32)]], 8, [(0, (.own 0))], [⟨0, 0, .row true 85 [.b (.int .u32), .b (.int .u32), .b (.int .u32)]⟩]⟩
noncomputable def slices_Clone___i2_o : Exits := [(.ret, ⟨[.r [.b (.int .u32), .b (.int .u32), .b (.int .u32)], .r [.b (.int .u32), .b (.int .u32), .b (.int .u32)]], 8, [(2, (.own 105))], [⟨105, 0, .row true 85 [.b (.int .u32), .b (.int .u32), .b (.int .u32)]⟩, ⟨0, 0, .row true 85 [.b (.int .u32), .b (.int .u32), .b (.int .u32)]⟩]⟩)]
noncomputable def slices_Clone___i2_s : TSum := TSum.of (baseC (fun _ => none) (fun _ => [])) (Go.Proofs.Tryz.f74.results.toList) 1 slices_Clone___i2_i slices_Clone___i2_o (fun v => slices_Clone___i2 v)
noncomputable def slices_Clone___i2_z : Code := Option.getD Go.Proofs.Tryz.f74.body .skip
noncomputable def slices_Clone___i2_x (gl : Glob) : TCtx := { baseC gl (lookS []) with inl := lookI [], fuel := 0, loops := lookL [], cuts := lookL [] }
theorem slices_Clone___i2_v {gl : Glob} (hg : Gs gl) : ValidS Go.Proofs.Tryz.prog gl 74 slices_Clone___i2_s := by
  refine validS_of (c := slices_Clone___i2_x gl) ?_ hm_ Go.Proofs.Tryz.func74 (body := slices_Clone___i2_z) ?_ ?_ ?_ ?_ ?_ ?_ ?_ ?_ ?_
  · exact tok_of tyB_ok cmpB_ok .nil .nil
  · kernel_rfl
  · rfl
  · exact annOK_by (l := []) (by kernel_rfl) (trivial)
  · exact fun v => Eq.symm (by kernel_rfl)
  · kernel_rfl
  · kernel_rfl
  · exact exitX_of (.cons (fun v => by kernel_rfl) .nil)
  · rfl
  · rfl
/-! (*sabretache/tables.Tables).Classes -/
noncomputable def tables_Tables_Classes_i : Pat := ⟨[.r [.b (.int .u32), .b (.int .u32), .b .str, .b .str, .b .str, .b .bool], .r [.b (.int .u32), .b (.int .u32), .b (.int .u32)], .r [.b (.int .u32), .s 22 [.int .u32], .b .bool, .b .bool], .r [.b (.int .u32), .b (.int .u32), .b (.int .u32)], .r [.b (.int .u32), .b (.int .u32), .b (.int .u32)], .r [.b .str, .b (.int .u32), .b (.int .u32)]], 10, [(0, (.ptr 0 0))], [⟨0, 0, .cells [(.own 1), (.own 2), (.own 3), (.own 4), (.own 5), (.own 6)]⟩, ⟨1, 0, .row true 98 [.b (.int .u32), .b (.int .u32), .b .str, .b .str, .b .str, .b .bool]⟩, ⟨2, 0, .row true 85 [.b (.int .u32), .b (.int .u32), .b (.int .u32)]⟩, ⟨3, 0, .row true 68 [.b (.int .u32), .s 22 [.int .u32], .b .bool, .b .bool]⟩, ⟨4, 0, .row true 87 [.b (.int .u32), .b (.int .u32), .b (.int .u32)]⟩, ⟨5, 0, .row true 87 [.b (.int .u32), .b (.int .u32), .b (.int .u32)]⟩, ⟨6, 0, .row true 100 [.b .str, .b (.int .u32), .b (.int .u32)]⟩]⟩
noncomputable def tables_Tables_Classes_o : Exits := [(.ret, ⟨[.r [.b (.int .u32), .b (.int .u32), .b (.int .u32)], .r [.b (.int .u32), .b (.int .u32), .b .str, .b .str, .b .str, .b .bool], .r [.b (.int .u32), .b (.int .u32), .b (.int .u32)], .r [.b (.int .u32), .s 22 [.int .u32], .b .bool, .b .bool], .r [.b (.int .u32), .b (.int .u32), .b (.int .u32)], .r [.b (.int .u32), .b (.int .u32), .b (.int .u32)], .r [.b .str, .b (.int .u32), .b (.int .u32)]], 10, [(2, (.own 1090))], [⟨1090, 0, .row true 85 [.b (.int .u32), .b (.int .u32), .b (.int .u32)]⟩, ⟨0, 0, .cells [(.own 1), (.own 2), (.own 3), (.own 4), (.own 5), (.own 6)]⟩, ⟨1, 0, .row true 98 [.b (.int .u32), .b (.int .u32), .b .str, .b .str, .b .str, .b .bool]⟩, ⟨2, 0, .row true 85 [.b (.int .u32), .b (.int .u32), .b (.int .u32)]⟩, ⟨3, 0, .row true 68 [.b (.int .u32), .s 22 [.int .u32], .b .bool, .b .bool]⟩, ⟨4, 0, .row true 87 [.b (.int .u32), .b (.int .u32), .b (.int .u32)]⟩, ⟨5, 0, .row true 87 [.b (.int .u32), .b (.int .u32), .b (.int .u32)]⟩, ⟨6, 0, .row true 100 [.b .str, .b (.int .u32), .b (.int .u32)]⟩]⟩)]
noncomputable def tables_Tables_Classes_s : TSum := TSum.of (baseC (fun _ => none) (fun _ => [])) (Go.Proofs.Tryz.f27.results.toList) 7 tables_Tables_Classes_i tables_Tables_Classes_o (fun v => tables_Tables_Classes v.1 v.2.1 v.2.2.1 v.2.2.2.1 v.2.2.2.2.1 v.2.2.2.2.2)
noncomputable def tables_Tables_Classes_z : Code := Option.getD Go.Proofs.Tryz.f27.body .skip
noncomputable def tables_Tables_Classes_x (gl : Glob) : TCtx := { baseC gl (lookS [(74, [slices_Clone___i2_s])]) with inl := lookI [], fuel := 0, loops := lookL [], cuts := lookL [] }
theorem tables_Tables_Classes_v {gl : Glob} (hg : Gs gl) : ValidS Go.Proofs.Tryz.prog gl 27 tables_Tables_Classes_s := by
  refine validS_of (c := tables_Tables_Classes_x gl) ?_ hm_ Go.Proofs.Tryz.func27 (body := tables_Tables_Classes_z) ?_ ?_ ?_ ?_ ?_ ?_ ?_ ?_ ?_
  · exact tok_of tyB_ok cmpB_ok (.cons (.cons (slices_Clone___i2_v hg) .nil) (hb_ 74 Go.Proofs.Tryz.func74 (by kernel_rfl) (by kernel_rfl)) .nil) .nil
  · kernel_rfl
  · rfl
  · exact annOK_by (l := []) (by kernel_rfl) (trivial)
  · exact fun (a0, a1, a2, a3, a4, a5) => Eq.symm (by kernel_rfl)
  · kernel_rfl
  · kernel_rfl
  · exact exitX_of (.cons (fun v => by kernel_rfl) .nil)
  · rfl
  · rfl
/-! sabretache/sabretacheref06.Class -/
noncomputable def ref06_Class_l3 : Loop1 := ⟨⟨[.b (.int .u32), .b (.int .u32), .b (.int .i64), .r [.b (.int .u32), .b (.int .u32), .b (.int .u32)]], 28, [(0, (.own 0)), (1, .v), (5, .v), (6, .v)], [⟨0, 0, .row true 85 [.b (.int .u32), .b (.int .u32), .b (.int .u32)]⟩]⟩, [(.exit 0, ⟨[.b (.int .u32), .r [.b (.int .u32), .b (.int .u32), .b (.int .u32)]], 28, [(5, .v)], [⟨0, 0, .row true 85 [.b (.int .u32), .b (.int .u32), .b (.int .u32)]⟩]⟩)], ref06_Class_b3⟩
noncomputable def ref06_Class_i : Pat := ⟨[.b (.int .u32), .r [.b (.int .u32), .b (.int .u32), .b (.int .u32)]], 28, [(0, (.own 0)), (1, .v)], [⟨0, 0, .row true 85 [.b (.int .u32), .b (.int .u32), .b (.int .u32)]⟩]⟩
noncomputable def ref06_Class_o : Exits := [(.ret, ⟨[.b (.int .u32), .r [.b (.int .u32), .b (.int .u32), .b (.int .u32)]], 28, [(4, .v)], [⟨0, 0, .row true 85 [.b (.int .u32), .b (.int .u32), .b (.int .u32)]⟩]⟩)]
noncomputable def ref06_Class_s : TSum := TSum.of (baseC (fun _ => none) (fun _ => [])) (Go.Proofs.Tryz.f26.results.toList) 1 ref06_Class_i ref06_Class_o (fun v => ref06_Class v.1 v.2)
noncomputable def ref06_Class_z : Code := Option.getD Go.Proofs.Tryz.f26.body .skip
noncomputable def ref06_Class_x (gl : Glob) : TCtx := { baseC gl (lookS [(72, [ref06_Has_s])]) with inl := lookI [], fuel := 0, loops := lookL [(3, ref06_Class_l3)], cuts := lookL [] }
theorem ref06_Class_v {gl : Glob} (hg : Gs gl) : ValidS Go.Proofs.Tryz.prog gl 26 ref06_Class_s := by
  refine validS_of (c := ref06_Class_x gl) ?_ hm_ Go.Proofs.Tryz.func26 (body := ref06_Class_z) ?_ ?_ ?_ ?_ ?_ ?_ ?_ ?_ ?_
  · exact tok_of tyB_ok cmpB_ok (.cons (.cons (ref06_Has_v hg) .nil) (hb_ 72 Go.Proofs.Tryz.func72 (by kernel_rfl) (by kernel_rfl)) .nil) .nil
  · kernel_rfl
  · rfl
  · exact annOK_by (l := [∀ v, ref06_Class_l3.body v = (roundT (ref06_Class_x gl) ref06_Class_l3.pat ref06_Class_l3.exits (subAt [1, 1, 0, 1, 0, 0] ref06_Class_z) v).run]) (by kernel_rfl) (⟨fun (a0, a1, a2, a3) => Eq.symm (by kernel_rfl), trivial⟩)
  · exact fun (a0, a1) => Eq.symm (by kernel_rfl)
  · kernel_rfl
  · kernel_rfl
  · exact exitX_of (.cons (fun v => by kernel_rfl) .nil)
  · rfl
  · rfl
/-! (sabretache/sabretacheref08.Tables).Class -/
noncomputable def ref08_Tables_Class_i : Pat := ⟨[.b (.int .u32), .r [.b (.int .u32), .b (.int .u32), .b .str, .b .str, .b .str, .b .bool], .r [.b (.int .u32), .b (.int .u32), .b (.int .u32)], .r [.b (.int .u32), .s 22 [.int .u32], .b .bool, .b .bool], .r [.b (.int .u32), .b (.int .u32), .b (.int .u32)], .r [.b (.int .u32), .b (.int .u32), .b (.int .u32)], .r [.b .str, .b (.int .u32), .b (.int .u32)]], 9, [(0, (.agg [(.own 0), (.own 1), (.own 2), (.own 3), (.own 4), (.own 5)])), (1, .v)], [⟨0, 0, .row true 98 [.b (.int .u32), .b (.int .u32), .b .str, .b .str, .b .str, .b .bool]⟩, ⟨1, 0, .row true 85 [.b (.int .u32), .b (.int .u32), .b (.int .u32)]⟩, ⟨2, 0, .row true 68 [.b (.int .u32), .s 22 [.int .u32], .b .bool, .b .bool]⟩, ⟨3, 0, .row true 87 [.b (.int .u32), .b (.int .u32), .b (.int .u32)]⟩, ⟨4, 0, .row true 87 [.b (.int .u32), .b (.int .u32), .b (.int .u32)]⟩, ⟨5, 0, .row true 100 [.b .str, .b (.int .u32), .b (.int .u32)]⟩]⟩
noncomputable def ref08_Tables_Class_o : Exits := [(.ret, ⟨[.b (.int .u32), .r [.b (.int .u32), .b (.int .u32), .b .str, .b .str, .b .str, .b .bool], .r [.b (.int .u32), .b (.int .u32), .b (.int .u32)], .r [.b (.int .u32), .s 22 [.int .u32], .b .bool, .b .bool], .r [.b (.int .u32), .b (.int .u32), .b (.int .u32)], .r [.b (.int .u32), .b (.int .u32), .b (.int .u32)], .r [.b .str, .b (.int .u32), .b (.int .u32)]], 9, [(4, .v)], [⟨0, 0, .row true 98 [.b (.int .u32), .b (.int .u32), .b .str, .b .str, .b .str, .b .bool]⟩, ⟨1, 0, .row true 85 [.b (.int .u32), .b (.int .u32), .b (.int .u32)]⟩, ⟨2, 0, .row true 68 [.b (.int .u32), .s 22 [.int .u32], .b .bool, .b .bool]⟩, ⟨3, 0, .row true 87 [.b (.int .u32), .b (.int .u32), .b (.int .u32)]⟩, ⟨4, 0, .row true 87 [.b (.int .u32), .b (.int .u32), .b (.int .u32)]⟩, ⟨5, 0, .row true 100 [.b .str, .b (.int .u32), .b (.int .u32)]⟩]⟩)]
noncomputable def ref08_Tables_Class_s : TSum := TSum.of (baseC (fun _ => none) (fun _ => [])) (Go.Proofs.Tryz.f28.results.toList) 6 ref08_Tables_Class_i ref08_Tables_Class_o (fun v => ref08_Tables_Class v.1 v.2.1 v.2.2.1 v.2.2.2.1 v.2.2.2.2.1 v.2.2.2.2.2.1 v.2.2.2.2.2.2)
noncomputable def ref08_Tables_Class_z : Code := Option.getD Go.Proofs.Tryz.f28.body .skip
noncomputable def ref08_Tables_Class_x (gl : Glob) : TCtx := { baseC gl (lookS [(26, [ref06_Class_s])]) with inl := lookI [], fuel := 0, loops := lookL [], cuts := lookL [] }
theorem ref08_Tables_Class_v {gl : Glob} (hg : Gs gl) : ValidS Go.Proofs.Tryz.prog gl 28 ref08_Tables_Class_s := by
  refine validS_of (c := ref08_Tables_Class_x gl) ?_ hm_ Go.Proofs.Tryz.func28 (body := ref08_Tables_Class_z) ?_ ?_ ?_ ?_ ?_ ?_ ?_ ?_ ?_
  · exact tok_of tyB_ok cmpB_ok (.cons (.cons (ref06_Class_v hg) .nil) (hb_ 26 Go.Proofs.Tryz.func26 (by kernel_rfl) (by kernel_rfl)) .nil) .nil
  · kernel_rfl
  · rfl
  · exact annOK_by (l := []) (by kernel_rfl) (trivial)
  · exact fun (a0, a1, a2, a3, a4, a5, a6) => Eq.symm (by kernel_rfl)
  · kernel_rfl
  · kernel_rfl
  · exact exitX_of (.cons (fun v => by kernel_rfl) .nil)
  · rfl
  · rfl
/-! sabretache/sabretachelaw08.TablesPairs -/
noncomputable def law08_TablesPairs_i : Pat := ⟨[.b (.int .u32), .b (.int .u32)], 94, [(0, .v), (1, .v)], []⟩
noncomputable def law08_TablesPairs_o : Exits := [(.ret, ⟨[.b .bool], 94, [(4, .v)], []⟩)]
noncomputable def law08_TablesPairs_s : TSum := TSum.of (baseC (fun _ => none) (fun _ => [])) (Go.Proofs.Tryz.f4.results.toList) 0 law08_TablesPairs_i law08_TablesPairs_o (fun v => law08_TablesPairs v.1 v.2)
noncomputable def law08_TablesPairs_z : Code := Option.getD Go.Proofs.Tryz.f4.body .skip
noncomputable def law08_TablesPairs_x (gl : Glob) : TCtx := { baseC gl (lookS [(16, [tables_New_s]), (14, [law08_awake_s]), (15, [ref08_New_s]), (21, [tables_Tables_Pairs_s]), (20, [ref06_Two_s]), (22, [ref08_Tables_Pair_s]), (24, [tables_Tables_Lowers_s]), (23, [ref06_Map_s]), (25, [tables_Tables_Widths_s]), (27, [tables_Tables_Classes_s]), (26, [ref06_Class_s]), (28, [ref08_Tables_Class_s])]) with inl := lookI [], fuel := 0, loops := lookL [], cuts := lookL [] }
theorem law08_TablesPairs_v {gl : Glob} (hg : Gs gl) : ValidS Go.Proofs.Tryz.prog gl 4 law08_TablesPairs_s := by
  refine validS_of (c := law08_TablesPairs_x gl) ?_ hm_ Go.Proofs.Tryz.func4 (body := law08_TablesPairs_z) ?_ ?_ ?_ ?_ ?_ ?_ ?_ ?_ ?_
  · exact tok_of tyB_ok cmpB_ok (.cons (.cons (tables_New_v hg) .nil) (hb_ 16 Go.Proofs.Tryz.func16 (by kernel_rfl) (by kernel_rfl)) (.cons (.cons (law08_awake_v hg) .nil) (hb_ 14 Go.Proofs.Tryz.func14 (by kernel_rfl) (by kernel_rfl)) (.cons (.cons (ref08_New_v hg) .nil) (hb_ 15 Go.Proofs.Tryz.func15 (by kernel_rfl) (by kernel_rfl)) (.cons (.cons (tables_Tables_Pairs_v hg) .nil) (hb_ 21 Go.Proofs.Tryz.func21 (by kernel_rfl) (by kernel_rfl)) (.cons (.cons (ref06_Two_v hg) .nil) (hb_ 20 Go.Proofs.Tryz.func20 (by kernel_rfl) (by kernel_rfl)) (.cons (.cons (ref08_Tables_Pair_v hg) .nil) (hb_ 22 Go.Proofs.Tryz.func22 (by kernel_rfl) (by kernel_rfl)) (.cons (.cons (tables_Tables_Lowers_v hg) .nil) (hb_ 24 Go.Proofs.Tryz.func24 (by kernel_rfl) (by kernel_rfl)) (.cons (.cons (ref06_Map_v hg) .nil) (hb_ 23 Go.Proofs.Tryz.func23 (by kernel_rfl) (by kernel_rfl)) (.cons (.cons (tables_Tables_Widths_v hg) .nil) (hb_ 25 Go.Proofs.Tryz.func25 (by kernel_rfl) (by kernel_rfl)) (.cons (.cons (tables_Tables_Classes_v hg) .nil) (hb_ 27 Go.Proofs.Tryz.func27 (by kernel_rfl) (by kernel_rfl)) (.cons (.cons (ref06_Class_v hg) .nil) (hb_ 26 Go.Proofs.Tryz.func26 (by kernel_rfl) (by kernel_rfl)) (.cons (.cons (ref08_Tables_Class_v hg) .nil) (hb_ 28 Go.Proofs.Tryz.func28 (by kernel_rfl) (by kernel_rfl)) .nil)))))))))))) .nil
  · kernel_rfl
  · rfl
  · exact annOK_by (l := []) (by kernel_rfl) (trivial)
  · exact fun (a0, a1) => Eq.symm (by kernel_rfl)
  · kernel_rfl
  · kernel_rfl
  · exact exitX_of (.cons (fun v => by kernel_rfl) .nil)
  · rfl
  · rfl
end Go.Tx

/- Printed by the driver (wip/drv): Go functions as pure Lean ones. -/
set_option linter.all false
set_option linter.unusedVariables false
set_option maxRecDepth 100000
namespace Go.Tx
open Go Go.Sx
/-! sabretache/sabretachelaw08.TablesFull -/
noncomputable def law08_TablesFull_b13 : Bool × Int × Int × Int × Int × Int × List (Int) × List (Int) × List (Int × Int × ByteArray × ByteArray × ByteArray × Bool) × List (Int × Int × Int) × List (Int × List (Int) × Bool × Bool) × List (Int × Int × Int) × List (Int × Int × Int) × List (ByteArray × Int × Int) × List (List (Int)) → Option ((Bool × Int × Int × Int × Int × Int × List (Int) × List (Int) × List (Int × Int × ByteArray × ByteArray × ByteArray × Bool) × List (Int × Int × Int) × List (Int × List (Int) × Bool × Bool) × List (Int × Int × Int) × List (Int × Int × Int) × List (ByteArray × Int × Int) × List (List (Int))) ⊕ (Bool ⊕ (Bool × Int × Int × Int × List (Int) × List (Int × Int × ByteArray × ByteArray × ByteArray × Bool) × List (Int × Int × Int) × List (Int × List (Int) × Bool × Bool) × List (Int × Int × Int) × List (Int × Int × Int) × List (ByteArray × Int × Int) × List (Int) × List (List (Int))))) := fun
  | (compat2, q11, there12, t51, t57, t58, l149, l1230, l1200, l1201, l1202, l1203, l1204, l1205, l1231) =>
  if (decide (t58 < t57)) = true then
   if ((decide ((0 : Int) ≤ t58)) && (decide (t58 < ((l1230.length : Nat) : Int)))) = true then
    if (decide (t58.toNat < l1230.length)) = true then
     if (decide ((l1230.getD t58.toNat (0 : Int)) = q11)) = true then
      if (decide (t58 > (0 : Int))) = true then
       if ((decide ((0 : Int) ≤ (Go.IntKind.wrap .i64 (t58 - (1 : Int))))) && (decide ((Go.IntKind.wrap .i64 (t58 - (1 : Int))) < ((l1230.length : Nat) : Int)))) = true then
        if (decide ((Go.IntKind.wrap .i64 (t58 - (1 : Int))).toNat < l1230.length)) = true then
         if (decide ((l1230.getD (Go.IntKind.wrap .i64 (t58 - (1 : Int))).toNat (0 : Int)) ≥ (l1230.getD t58.toNat (0 : Int)))) = true then
          some (.inr (.inl false))
         else
          some (.inl (compat2, (q11, (t58, (t51, (t57, ((Go.IntKind.wrap .i64 (t58 + (1 : Int))), (l149, (l1230, (l1200, (l1201, (l1202, (l1203, (l1204, (l1205, l1231)))))))))))))))
        else
         none
       else
        none
      else
       some (.inl (compat2, (q11, (t58, (t51, (t57, ((Go.IntKind.wrap .i64 (t58 + (1 : Int))), (l149, (l1230, (l1200, (l1201, (l1202, (l1203, (l1204, (l1205, l1231)))))))))))))))
     else
      if (decide (t58 > (0 : Int))) = true then
       if ((decide ((0 : Int) ≤ (Go.IntKind.wrap .i64 (t58 - (1 : Int))))) && (decide ((Go.IntKind.wrap .i64 (t58 - (1 : Int))) < ((l1230.length : Nat) : Int)))) = true then
        if (decide ((Go.IntKind.wrap .i64 (t58 - (1 : Int))).toNat < l1230.length)) = true then
         if (decide ((l1230.getD (Go.IntKind.wrap .i64 (t58 - (1 : Int))).toNat (0 : Int)) ≥ (l1230.getD t58.toNat (0 : Int)))) = true then
          some (.inr (.inl false))
         else
          some (.inl (compat2, (q11, (there12, (t51, (t57, ((Go.IntKind.wrap .i64 (t58 + (1 : Int))), (l149, (l1230, (l1200, (l1201, (l1202, (l1203, (l1204, (l1205, l1231)))))))))))))))
        else
         none
       else
        none
      else
       some (.inl (compat2, (q11, (there12, (t51, (t57, ((Go.IntKind.wrap .i64 (t58 + (1 : Int))), (l149, (l1230, (l1200, (l1201, (l1202, (l1203, (l1204, (l1205, l1231)))))))))))))))
    else
     none
   else
    none
  else
   some (.inr (.inr (compat2, (q11, (there12, (t51, (l149, (l1200, (l1201, (l1202, (l1203, (l1204, (l1205, (l1230, l1231))))))))))))))
noncomputable def law08_TablesFull_b25 : Bool × Int × Int × Int × Int × List (Int) × List (Int) × List (Int) × List (Int × Int × ByteArray × ByteArray × ByteArray × Bool) × List (Int × Int × Int) × List (Int × List (Int) × Bool × Bool) × List (Int × Int × Int) × List (Int × Int × Int) × List (ByteArray × Int × Int) × List (Int) × List (List (Int)) → Option ((Bool × Int × Int × Int × Int × List (Int) × List (Int) × List (Int) × List (Int × Int × ByteArray × ByteArray × ByteArray × Bool) × List (Int × Int × Int) × List (Int × List (Int) × Bool × Bool) × List (Int × Int × Int) × List (Int × Int × Int) × List (ByteArray × Int × Int) × List (Int) × List (List (Int))) ⊕ (Bool ⊕ (Bool × Int × Int × List (Int) × List (Int) × List (Int × Int × ByteArray × ByteArray × ByteArray × Bool) × List (Int × Int × Int) × List (Int × List (Int) × Bool × Bool) × List (Int × Int × Int) × List (Int × Int × Int) × List (ByteArray × Int × Int) × List (Int) × List (List (Int))))) := fun
  | (compat2, there12, t51, t99, t100, l1930, l149, l1980, l1200, l1201, l1202, l1203, l1204, l1205, l1230, l1231) =>
  if (decide (t100 < t99)) = true then
   if ((decide ((0 : Int) ≤ t100)) && (decide (t100 < ((l1980.length : Nat) : Int)))) = true then
    if (decide (t100.toNat < l1980.length)) = true then
     if (decide (t100 < ((l1930.length : Nat) : Int))) = true then
      if ((decide ((0 : Int) ≤ t100)) && (decide (t100 < ((l1930.length : Nat) : Int)))) = true then
       if (decide (t100.toNat < l1930.length)) = true then
        if ((l1980.getD t100.toNat (0 : Int)) != (l1930.getD t100.toNat (0 : Int))) = true then
         some (.inr (.inl false))
        else
         if (decide (t100 ≥ ((l1930.length : Nat) : Int))) = true then
          if ((l1980.getD t100.toNat (0 : Int)) != (0 : Int)) = true then
           some (.inr (.inl false))
          else
           some (.inl (compat2, (there12, (t51, (t99, ((Go.IntKind.wrap .i64 (t100 + (1 : Int))), (l1930, (l149, (l1980, (l1200, (l1201, (l1202, (l1203, (l1204, (l1205, (l1230, l1231))))))))))))))))
         else
          some (.inl (compat2, (there12, (t51, (t99, ((Go.IntKind.wrap .i64 (t100 + (1 : Int))), (l1930, (l149, (l1980, (l1200, (l1201, (l1202, (l1203, (l1204, (l1205, (l1230, l1231))))))))))))))))
       else
        none
      else
       none
     else
      if (decide (t100 ≥ ((l1930.length : Nat) : Int))) = true then
       if ((l1980.getD t100.toNat (0 : Int)) != (0 : Int)) = true then
        some (.inr (.inl false))
       else
        some (.inl (compat2, (there12, (t51, (t99, ((Go.IntKind.wrap .i64 (t100 + (1 : Int))), (l1930, (l149, (l1980, (l1200, (l1201, (l1202, (l1203, (l1204, (l1205, (l1230, l1231))))))))))))))))
      else
       some (.inl (compat2, (there12, (t51, (t99, ((Go.IntKind.wrap .i64 (t100 + (1 : Int))), (l1930, (l149, (l1980, (l1200, (l1201, (l1202, (l1203, (l1204, (l1205, (l1230, l1231))))))))))))))))
    else
     none
   else
    none
  else
   some (.inr (.inr (compat2, (there12, (t51, (l1930, (l149, (l1200, (l1201, (l1202, (l1203, (l1204, (l1205, (l1230, l1231))))))))))))))
noncomputable def law08_TablesFull_b9 : Bool × Int × List (Int) × List (Int × Int × ByteArray × ByteArray × ByteArray × Bool) × List (Int × Int × Int) × List (Int × List (Int) × Bool × Bool) × List (Int × Int × Int) × List (Int × Int × Int) × List (ByteArray × Int × Int) × List (Int) × List (List (Int)) → Option ((Bool × Int × List (Int) × List (Int × Int × ByteArray × ByteArray × ByteArray × Bool) × List (Int × Int × Int) × List (Int × List (Int) × Bool × Bool) × List (Int × Int × Int) × List (Int × Int × Int) × List (ByteArray × Int × Int) × List (Int) × List (List (Int))) ⊕ (Unit ⊕ Bool)) := fun
  | (compat2, t51, l149, l1200, l1201, l1202, l1203, l1204, l1205, l1230, l1231) =>
  if (decide (t51 < (2 : Int))) = true then
   if ((decide ((0 : Int) ≤ t51)) && (decide (t51 < ((l149.length : Nat) : Int)))) = true then
    if (decide (t51.toNat < l149.length)) = true then
     ((Go.Sx.runLoop law08_TablesFull_b13 (compat2, ((l149.getD t51.toNat (0 : Int)), ((-1 : Int), (t51, (((l1230.length : Nat) : Int), ((0 : Int), (l149, (l1230, (l1200, (l1201, (l1202, (l1203, (l1204, (l1205, l1231)))))))))))))))).bind fun r0_0 =>
      match r0_0 with
      | .inl r1_0 =>
       some (.inr (.inr r1_0))
      | .inr (r2_0, r2_1, r2_2, r2_3, r2_4, r2_5, r2_6, r2_7, r2_8, r2_9, r2_10, r2_11, r2_12) =>
       ((Go.Tx.ref08_Tables_Line r2_1 r2_0 r2_5 r2_6 r2_7 r2_8 r2_9 r2_10)).bind fun (r3_0, r3_1, r3_2, r3_3, r3_4, r3_5, r3_6) =>
        if (!(decide ((decide (r2_2 ≥ (0 : Int))) = (decide (r3_0 ≥ (0 : Int)))))) = true then
         some (.inr (.inr false))
        else
         if (decide (r2_2 < (0 : Int))) = true then
          some (.inl (r2_0, ((Go.IntKind.wrap .i64 (r2_3 + (1 : Int))), (r2_4, (r3_1, (r3_2, (r3_3, (r3_4, (r3_5, (r3_6, (r2_11, r2_12)))))))))))
         else
          ((Go.Tx.ref08_Tables_Full r2_1 r2_0 r3_1 r3_2 r3_3 r3_4 r3_5 r3_6)).bind fun (r4_0, r4_1, r4_2, r4_3, r4_4, r4_5, r4_6) =>
           if ((decide ((0 : Int) ≤ r2_2)) && (decide (r2_2 < ((r2_12.length : Nat) : Int)))) = true then
            if (decide (r2_2.toNat < r2_12.length)) = true then
             ((Go.Sx.runLoop law08_TablesFull_b25 (r2_0, (r2_2, (r2_3, ((((r2_12.getD r2_2.toNat []).length : Nat) : Int), ((0 : Int), (r4_0, (r2_4, ((r2_12.getD r2_2.toNat []), (r4_1, (r4_2, (r4_3, (r4_4, (r4_5, (r4_6, (r2_11, r2_12))))))))))))))))).bind fun r5_0 =>
              match r5_0 with
              | .inl r6_0 =>
               some (.inr (.inr r6_0))
              | .inr (r7_0, r7_1, r7_2, r7_3, r7_4, r7_5, r7_6, r7_7, r7_8, r7_9, r7_10, r7_11, r7_12) =>
               if ((decide ((0 : Int) ≤ r7_1)) && (decide (r7_1 < ((r7_12.length : Nat) : Int)))) = true then
                if (decide (r7_1.toNat < r7_12.length)) = true then
                 if ((((r7_12.getD r7_1.toNat []).length : Nat) : Int) != (3 : Int)) = true then
                  some (.inr (.inr false))
                 else
                  if (decide (((r7_3.length : Nat) : Int) > (3 : Int))) = true then
                   some (.inr (.inr false))
                  else
                   some (.inl (r7_0, ((Go.IntKind.wrap .i64 (r7_2 + (1 : Int))), (r7_4, (r7_5, (r7_6, (r7_7, (r7_8, (r7_9, (r7_10, (r7_11, r7_12)))))))))))
                else
                 none
               else
                none
            else
             none
           else
            none
    else
     none
   else
    none
  else
   some (.inr (.inl ()))
noncomputable def law08_TablesFull (p0 : Int) (at1 : Int) (compat2 : Bool) : Option (Bool) :=
  (Go.Tx.law08_awake).bind fun r0_0 =>
   if (!r0_0) = true then
    some false
   else
    (Go.Tx.ref08_New).bind fun (r1_0, r1_1, r1_2, r1_3, r1_4, r1_5) =>
     (Go.Tx.tables_New).bind fun (r2_0, r2_1, r2_2, r2_3, r2_4, r2_5) =>
      ((Go.Tx.tables_Tables_Full compat2 r2_0 r2_1 r2_2 r2_3 r2_4 r2_5)).bind fun (r3_0, r3_1, r3_2, r3_3, r3_4, r3_5, r3_6, r3_7) =>
       if (((r3_6.length : Nat) : Int) != ((r3_7.length : Nat) : Int)) = true then
        some false
       else
        if (decide (((r3_6.length : Nat) : Int) = (0 : Int))) = true then
         some false
        else
         if (!(decide (((r3_6.length : Nat) : Int) = (0 : Int)))) = true then
          if ((decide ((0 : Int) ≤ (Int.tmod (Go.IntKind.wrap .i64 at1) ((r3_6.length : Nat) : Int)))) && (decide ((Int.tmod (Go.IntKind.wrap .i64 at1) ((r3_6.length : Nat) : Int)) < ((r3_6.length : Nat) : Int)))) = true then
           if (decide ((Int.tmod (Go.IntKind.wrap .i64 at1) ((r3_6.length : Nat) : Int)).toNat < r3_6.length)) = true then
            ((Go.Sx.runLoop law08_TablesFull_b9 (compat2, ((0 : Int), ([p0, (r3_6.getD (Int.tmod (Go.IntKind.wrap .i64 at1) ((r3_6.length : Nat) : Int)).toNat (0 : Int))], (r1_0, (r1_1, (r1_2, (r1_3, (r1_4, (r1_5, (r3_6, r3_7)))))))))))).bind fun r4_0 =>
             match r4_0 with
             | .inl _ =>
              some true
             | .inr r6_0 =>
              some r6_0
           else
            none
          else
           none
         else
          none
end Go.Tx

/- Printed by the driver (wip/drv): the contracts of Go functions, checked. -/
set_option linter.all false
set_option linter.unusedVariables false
set_option maxRecDepth 100000
set_option maxHeartbeats 0
namespace Go.Tx
open Go Go.Sx
/-! sabretache/sabretachelaw08.TablesFull -/
noncomputable def law08_TablesFull_l9 : Loop1 := ⟨⟨[.b .bool, .b (.int .i64), .r [.b (.int .u32)], .r [.b (.int .u32), .b (.int .u32), .b .str, .b .str, .b .str, .b .bool], .r [.b (.int .u32), .b (.int .u32), .b (.int .u32)], .r [.b (.int .u32), .s 22 [.int .u32], .b .bool, .b .bool], .r [.b (.int .u32), .b (.int .u32), .b (.int .u32)], .r [.b (.int .u32), .b (.int .u32), .b (.int .u32)], .r [.b .str, .b (.int .u32), .b (.int .u32)], .r [.b (.int .u32)], .r [.s 22 [.int .u32]]], 141, [(2, .v), (7, (.ptr 107 0)), (8, (.ptr 108 0)), (49, (.own 149)), (50, (.lit (.int .i64 2))), (51, .v)], [⟨107, 0, .cells [(.own 1200), (.own 1201), (.own 1202), (.own 1203), (.own 1204), (.own 1205)]⟩, ⟨108, 0, .cells [(.own 1230), (.own 1231)]⟩, ⟨149, 0, .row true 22 [.b (.int .u32)]⟩, ⟨1200, 0, .row true 98 [.b (.int .u32), .b (.int .u32), .b .str, .b .str, .b .str, .b .bool]⟩, ⟨1201, 0, .row true 85 [.b (.int .u32), .b (.int .u32), .b (.int .u32)]⟩, ⟨1202, 0, .row true 68 [.b (.int .u32), .s 22 [.int .u32], .b .bool, .b .bool]⟩, ⟨1203, 0, .row true 87 [.b (.int .u32), .b (.int .u32), .b (.int .u32)]⟩, ⟨1204, 0, .row true 87 [.b (.int .u32), .b (.int .u32), .b (.int .u32)]⟩, ⟨1205, 0, .row true 100 [.b .str, .b (.int .u32), .b (.int .u32)]⟩, ⟨1230, 0, .row true 22 [.b (.int .u32)]⟩, ⟨1231, 0, .row true 33 [.s 22 [.int .u32]]⟩]⟩, [(.exit 0, ⟨[], 141, [], []⟩), (.ret, ⟨[.b .bool], 141, [(6, .v)], []⟩)], law08_TablesFull_b9⟩
noncomputable def law08_TablesFull_l13 : Loop1 := ⟨⟨[.b .bool, .b (.int .u32), .b (.int .i64), .b (.int .i64), .b (.int .i64), .b (.int .i64), .r [.b (.int .u32)], .r [.b (.int .u32)], .r [.b (.int .u32), .b (.int .u32), .b .str, .b .str, .b .str, .b .bool], .r [.b (.int .u32), .b (.int .u32), .b (.int .u32)], .r [.b (.int .u32), .s 22 [.int .u32], .b .bool, .b .bool], .r [.b (.int .u32), .b (.int .u32), .b (.int .u32)], .r [.b (.int .u32), .b (.int .u32), .b (.int .u32)], .r [.b .str, .b (.int .u32), .b (.int .u32)], .r [.s 22 [.int .u32]]], 141, [(2, .v), (7, (.ptr 107 0)), (8, (.ptr 108 0)), (11, .v), (12, .v), (49, (.own 149)), (50, (.lit (.int .i64 2))), (51, .v), (56, (.own 1230)), (57, .v), (58, .v)], [⟨107, 0, .cells [(.own 1200), (.own 1201), (.own 1202), (.own 1203), (.own 1204), (.own 1205)]⟩, ⟨108, 0, .cells [(.own 1230), (.own 1231)]⟩, ⟨149, 0, .row true 22 [.b (.int .u32)]⟩, ⟨1230, 0, .row true 22 [.b (.int .u32)]⟩, ⟨1200, 0, .row true 98 [.b (.int .u32), .b (.int .u32), .b .str, .b .str, .b .str, .b .bool]⟩, ⟨1201, 0, .row true 85 [.b (.int .u32), .b (.int .u32), .b (.int .u32)]⟩, ⟨1202, 0, .row true 68 [.b (.int .u32), .s 22 [.int .u32], .b .bool, .b .bool]⟩, ⟨1203, 0, .row true 87 [.b (.int .u32), .b (.int .u32), .b (.int .u32)]⟩, ⟨1204, 0, .row true 87 [.b (.int .u32), .b (.int .u32), .b (.int .u32)]⟩, ⟨1205, 0, .row true 100 [.b .str, .b (.int .u32), .b (.int .u32)]⟩, ⟨1231, 0, .row true 33 [.s 22 [.int .u32]]⟩]⟩, [(.ret, ⟨[.b .bool], 141, [(6, .v)], []⟩), (.exit 2, ⟨[.b .bool, .b (.int .u32), .b (.int .i64), .b (.int .i64), .r [.b (.int .u32)], .r [.b (.int .u32), .b (.int .u32), .b .str, .b .str, .b .str, .b .bool], .r [.b (.int .u32), .b (.int .u32), .b (.int .u32)], .r [.b (.int .u32), .s 22 [.int .u32], .b .bool, .b .bool], .r [.b (.int .u32), .b (.int .u32), .b (.int .u32)], .r [.b (.int .u32), .b (.int .u32), .b (.int .u32)], .r [.b .str, .b (.int .u32), .b (.int .u32)], .r [.b (.int .u32)], .r [.s 22 [.int .u32]]], 141, [(2, .v), (7, (.ptr 107 0)), (8, (.ptr 108 0)), (11, .v), (12, .v), (49, (.own 149)), (50, (.lit (.int .i64 2))), (51, .v)], [⟨107, 0, .cells [(.own 1200), (.own 1201), (.own 1202), (.own 1203), (.own 1204), (.own 1205)]⟩, ⟨108, 0, .cells [(.own 1230), (.own 1231)]⟩, ⟨149, 0, .row true 22 [.b (.int .u32)]⟩, ⟨1200, 0, .row true 98 [.b (.int .u32), .b (.int .u32), .b .str, .b .str, .b .str, .b .bool]⟩, ⟨1201, 0, .row true 85 [.b (.int .u32), .b (.int .u32), .b (.int .u32)]⟩, ⟨1202, 0, .row true 68 [.b (.int .u32), .s 22 [.int .u32], .b .bool, .b .bool]⟩, ⟨1203, 0, .row true 87 [.b (.int .u32), .b (.int .u32), .b (.int .u32)]⟩, ⟨1204, 0, .row true 87 [.b (.int .u32), .b (.int .u32), .b (.int .u32)]⟩, ⟨1205, 0, .row true 100 [.b .str, .b (.int .u32), .b (.int .u32)]⟩, ⟨1230, 0, .row true 22 [.b (.int .u32)]⟩, ⟨1231, 0, .row true 33 [.s 22 [.int .u32]]⟩]⟩)], law08_TablesFull_b13⟩
noncomputable def law08_TablesFull_l25 : Loop1 := ⟨⟨[.b .bool, .b (.int .i64), .b (.int .i64), .b (.int .i64), .b (.int .i64), .r [.b (.int .u32)], .r [.b (.int .u32)], .r [.b (.int .u32)], .r [.b (.int .u32), .b (.int .u32), .b .str, .b .str, .b .str, .b .bool], .r [.b (.int .u32), .b (.int .u32), .b (.int .u32)], .r [.b (.int .u32), .s 22 [.int .u32], .b .bool, .b .bool], .r [.b (.int .u32), .b (.int .u32), .b (.int .u32)], .r [.b (.int .u32), .b (.int .u32), .b (.int .u32)], .r [.b .str, .b (.int .u32), .b (.int .u32)], .r [.b (.int .u32)], .r [.s 22 [.int .u32]]], 141, [(2, .v), (7, (.ptr 107 0)), (8, (.ptr 108 0)), (12, .v), (15, (.own 1930)), (49, (.own 149)), (50, (.lit (.int .i64 2))), (51, .v), (98, (.own 1980)), (99, .v), (100, .v)], [⟨107, 0, .cells [(.own 1200), (.own 1201), (.own 1202), (.own 1203), (.own 1204), (.own 1205)]⟩, ⟨108, 0, .cells [(.own 1230), (.own 1231)]⟩, ⟨1930, 0, .row true 22 [.b (.int .u32)]⟩, ⟨149, 0, .row true 22 [.b (.int .u32)]⟩, ⟨1980, 0, .row false 22 [.b (.int .u32)]⟩, ⟨1200, 0, .row true 98 [.b (.int .u32), .b (.int .u32), .b .str, .b .str, .b .str, .b .bool]⟩, ⟨1201, 0, .row true 85 [.b (.int .u32), .b (.int .u32), .b (.int .u32)]⟩, ⟨1202, 0, .row true 68 [.b (.int .u32), .s 22 [.int .u32], .b .bool, .b .bool]⟩, ⟨1203, 0, .row true 87 [.b (.int .u32), .b (.int .u32), .b (.int .u32)]⟩, ⟨1204, 0, .row true 87 [.b (.int .u32), .b (.int .u32), .b (.int .u32)]⟩, ⟨1205, 0, .row true 100 [.b .str, .b (.int .u32), .b (.int .u32)]⟩, ⟨1230, 0, .row true 22 [.b (.int .u32)]⟩, ⟨1231, 0, .row true 33 [.s 22 [.int .u32]]⟩]⟩, [(.ret, ⟨[.b .bool], 141, [(6, .v)], []⟩), (.exit 4, ⟨[.b .bool, .b (.int .i64), .b (.int .i64), .r [.b (.int .u32)], .r [.b (.int .u32)], .r [.b (.int .u32), .b (.int .u32), .b .str, .b .str, .b .str, .b .bool], .r [.b (.int .u32), .b (.int .u32), .b (.int .u32)], .r [.b (.int .u32), .s 22 [.int .u32], .b .bool, .b .bool], .r [.b (.int .u32), .b (.int .u32), .b (.int .u32)], .r [.b (.int .u32), .b (.int .u32), .b (.int .u32)], .r [.b .str, .b (.int .u32), .b (.int .u32)], .r [.b (.int .u32)], .r [.s 22 [.int .u32]]], 141, [(2, .v), (7, (.ptr 107 0)), (8, (.ptr 108 0)), (12, .v), (15, (.own 1930)), (49, (.own 149)), (50, (.lit (.int .i64 2))), (51, .v)], [⟨107, 0, .cells [(.own 1200), (.own 1201), (.own 1202), (.own 1203), (.own 1204), (.own 1205)]⟩, ⟨108, 0, .cells [(.own 1230), (.own 1231)]⟩, ⟨1930, 0, .row true 22 [.b (.int .u32)]⟩, ⟨149, 0, .row true 22 [.b (.int .u32)]⟩, ⟨1200, 0, .row true 98 [.b (.int .u32), .b (.int .u32), .b .str, .b .str, .b .str, .b .bool]⟩, ⟨1201, 0, .row true 85 [.b (.int .u32), .b (.int .u32), .b (.int .u32)]⟩, ⟨1202, 0, .row true 68 [.b (.int .u32), .s 22 [.int .u32], .b .bool, .b .bool]⟩, ⟨1203, 0, .row true 87 [.b (.int .u32), .b (.int .u32), .b (.int .u32)]⟩, ⟨1204, 0, .row true 87 [.b (.int .u32), .b (.int .u32), .b (.int .u32)]⟩, ⟨1205, 0, .row true 100 [.b .str, .b (.int .u32), .b (.int .u32)]⟩, ⟨1230, 0, .row true 22 [.b (.int .u32)]⟩, ⟨1231, 0, .row true 33 [.s 22 [.int .u32]]⟩]⟩)], law08_TablesFull_b25⟩
noncomputable def law08_TablesFull_i : Pat := ⟨[.b (.int .u32), .b (.int .u16), .b .bool], 141, [(0, .v), (1, .v), (2, .v)], []⟩
noncomputable def law08_TablesFull_o : Exits := [(.ret, ⟨[.b .bool], 141, [(6, .v)], []⟩)]
noncomputable def law08_TablesFull_s : TSum := TSum.of (baseC (fun _ => none) (fun _ => [])) (Go.Proofs.Tryz.f3.results.toList) 0 law08_TablesFull_i law08_TablesFull_o (fun v => law08_TablesFull v.1 v.2.1 v.2.2)
noncomputable def law08_TablesFull_z : Code := Option.getD Go.Proofs.Tryz.f3.body .skip
noncomputable def law08_TablesFull_x (gl : Glob) : TCtx := { baseC gl (lookS [(16, [tables_New_s]), (17, [tables_Tables_Full_s]), (14, [law08_awake_s]), (15, [ref08_New_s]), (18, [ref08_Tables_Line_s]), (19, [ref08_Tables_Full_s])]) with inl := lookI [], fuel := 0, loops := lookL [(9, law08_TablesFull_l9), (13, law08_TablesFull_l13), (25, law08_TablesFull_l25)], cuts := lookL [] }
theorem law08_TablesFull_v {gl : Glob} (hg : Gs gl) : ValidS Go.Proofs.Tryz.prog gl 3 law08_TablesFull_s := by
  refine validS_of (c := law08_TablesFull_x gl) ?_ hm_ Go.Proofs.Tryz.func3 (body := law08_TablesFull_z) ?_ ?_ ?_ ?_ ?_ ?_ ?_ ?_ ?_
  · exact tok_of tyB_ok cmpB_ok (.cons (.cons (tables_New_v hg) .nil) (hb_ 16 Go.Proofs.Tryz.func16 (by kernel_rfl) (by kernel_rfl)) (.cons (.cons (tables_Tables_Full_v hg) .nil) (hb_ 17 Go.Proofs.Tryz.func17 (by kernel_rfl) (by kernel_rfl)) (.cons (.cons (law08_awake_v hg) .nil) (hb_ 14 Go.Proofs.Tryz.func14 (by kernel_rfl) (by kernel_rfl)) (.cons (.cons (ref08_New_v hg) .nil) (hb_ 15 Go.Proofs.Tryz.func15 (by kernel_rfl) (by kernel_rfl)) (.cons (.cons (ref08_Tables_Line_v hg) .nil) (hb_ 18 Go.Proofs.Tryz.func18 (by kernel_rfl) (by kernel_rfl)) (.cons (.cons (ref08_Tables_Full_v hg) .nil) (hb_ 19 Go.Proofs.Tryz.func19 (by kernel_rfl) (by kernel_rfl)) .nil)))))) .nil
  · kernel_rfl
  · rfl
  · exact annOK_by (l := [∀ v, law08_TablesFull_l13.body v = (roundT (law08_TablesFull_x gl) law08_TablesFull_l13.pat law08_TablesFull_l13.exits (subAt [1, 1, 1, 1, 1, 1, 0, 1, 0, 0, 1, 1, 0, 0, 1, 1, 0, 1, 0, 0] law08_TablesFull_z) v).run, ∀ v, law08_TablesFull_l25.body v = (roundT (law08_TablesFull_x gl) law08_TablesFull_l25.pat law08_TablesFull_l25.exits (subAt [1, 1, 1, 1, 1, 1, 0, 1, 0, 0, 1, 1, 0, 0, 1, 1, 1, 1, 1, 1, 0, 1, 0, 0] law08_TablesFull_z) v).run, ∀ v, law08_TablesFull_l9.body v = (roundT (law08_TablesFull_x gl) law08_TablesFull_l9.pat law08_TablesFull_l9.exits (subAt [1, 1, 1, 1, 1, 1, 0, 1, 0, 0] law08_TablesFull_z) v).run]) (by kernel_rfl) (⟨fun (a0, a1, a2, a3, a4, a5, a6, a7, a8, a9, a10, a11, a12, a13, a14) => Eq.symm (by kernel_rfl), fun (a0, a1, a2, a3, a4, a5, a6, a7, a8, a9, a10, a11, a12, a13, a14, a15) => Eq.symm (by kernel_rfl), fun (a0, a1, a2, a3, a4, a5, a6, a7, a8, a9, a10) => Eq.symm (by kernel_rfl), trivial⟩)
  · exact fun (a0, a1, a2) => Eq.symm (by kernel_rfl)
  · kernel_rfl
  · kernel_rfl
  · exact exitX_of (.cons (fun v => by kernel_rfl) .nil)
  · rfl
  · rfl
end Go.Tx
