/- Part 10 of the proof of the statement that the last part names; it asks for no condition of its own. Here: GenMr0B. -/
import Derived.Test.YtgkfbembnlgahaaGreatDoorQae
import Derived.Test.YtgkfbembnlgahaaGreatDoorQag
import Derived.Test.YtgkfbembnlgahaaGreatDoorQai
set_option linter.all false
set_option linter.unusedVariables false
set_option maxRecDepth 100000
set_option maxHeartbeats 0
namespace Go.Ts
open Go Go.Sx Go.Tx
noncomputable def cmp_isNaN_uint32_i : Pat := ⟨[.b (.int .u32)], 6, [(0, .v)], []⟩
noncomputable def cmp_isNaN_uint32_o : Exits := [(.ret, ⟨[.b .bool], 6, [(2, .v)], []⟩)]
noncomputable def cmp_isNaN_uint32_s : TSum := TSum.of (baseC (fun _ => none) (fun _ => [])) (Go.Proofs.Tryz.f173.results.toList) 0 cmp_isNaN_uint32_i cmp_isNaN_uint32_o (fun v => cmp_isNaN_uint32 v)
noncomputable def cmp_isNaN_uint32_z : Code := Option.getD Go.Proofs.Tryz.f173.body .skip
noncomputable def cmp_isNaN_uint32_x (gl : Glob) : TCtx := { baseC gl (lookS []) with inl := lookI [], fuel := 0, loops := lookL [], cuts := lookL [] }
theorem cmp_isNaN_uint32_v {gl : Glob} : ValidS Go.Proofs.Tryz.prog gl 173 cmp_isNaN_uint32_s := by
  refine validS_of (c := cmp_isNaN_uint32_x gl) ?_ hm_ Go.Proofs.Tryz.func173 (body := cmp_isNaN_uint32_z) ?_ ?_ ?_ ?_ ?_ ?_ ?_ ?_ ?_
  · exact tok_of tyB_ok cmpB_ok .nil .nil
  · kernel_rfl
  · rfl
  · exact annOK_by (l := []) (by kernel_rfl) (trivial)
  · exact fun v => Eq.symm (by kernel_rfl)
  · kernel_rfl
  · kernel_rfl
  · exact exitX_of (.cons (fun v => by kernel_rfl) .nil)
  · rfl
  · rfl
noncomputable def cmp_Compare_uint32_i : Pat := ⟨[.b (.int .u32), .b (.int .u32)], 20, [(0, .v), (1, .v)], []⟩
noncomputable def cmp_Compare_uint32_o : Exits := [(.ret, ⟨[.b (.int .i64)], 20, [(4, .v)], []⟩)]
noncomputable def cmp_Compare_uint32_s : TSum := TSum.of (baseC (fun _ => none) (fun _ => [])) (Go.Proofs.Tryz.f128.results.toList) 0 cmp_Compare_uint32_i cmp_Compare_uint32_o (fun v => cmp_Compare_uint32 v.1 v.2)
noncomputable def cmp_Compare_uint32_z : Code := Option.getD Go.Proofs.Tryz.f128.body .skip
noncomputable def cmp_Compare_uint32_x (gl : Glob) : TCtx := { baseC gl (lookS [(173, [cmp_isNaN_uint32_s])]) with inl := lookI [], fuel := 0, loops := lookL [], cuts := lookL [] }
theorem cmp_Compare_uint32_v {gl : Glob} : ValidS Go.Proofs.Tryz.prog gl 128 cmp_Compare_uint32_s := by
  refine validS_of (c := cmp_Compare_uint32_x gl) ?_ hm_ Go.Proofs.Tryz.func128 (body := cmp_Compare_uint32_z) ?_ ?_ ?_ ?_ ?_ ?_ ?_ ?_ ?_
  · exact tok_of tyB_ok cmpB_ok (.cons (.cons cmp_isNaN_uint32_v .nil) (hb_ 173 Go.Proofs.Tryz.func173 (by kernel_rfl) (by kernel_rfl)) .nil) .nil
  · kernel_rfl
  · rfl
  · exact annOK_by (l := []) (by kernel_rfl) (trivial)
  · exact fun (a0, a1) => Eq.symm (by kernel_rfl)
  · kernel_rfl
  · kernel_rfl
  · exact exitX_of (.cons (fun v => by kernel_rfl) .nil)
  · rfl
  · rfl
noncomputable def cmp_Or_int_l3 : Loop1 := ⟨⟨[.b (.int .i64), .b (.int .i64), .r [.b (.int .i64)]], 18, [(3, (.lit (.int .i64 0))), (6, (.own 0)), (7, .v), (8, .v)], [⟨0, 0, .row true 3 [.b (.int .i64)]⟩]⟩, [(.ret, ⟨[.b (.int .i64), .r [.b (.int .i64)]], 18, [(2, .v)], [⟨0, 0, .row true 3 [.b (.int .i64)]⟩]⟩), (.exit 0, ⟨[.r [.b (.int .i64)]], 18, [(3, (.lit (.int .i64 0)))], [⟨0, 0, .row true 3 [.b (.int .i64)]⟩]⟩)], cmp_Or_int_b3⟩
noncomputable def cmp_Or_int_i : Pat := ⟨[.r [.b (.int .i64)]], 18, [(0, (.own 0))], [⟨0, 0, .row true 3 [.b (.int .i64)]⟩]⟩
noncomputable def cmp_Or_int_o : Exits := [(.ret, ⟨[.b (.int .i64), .r [.b (.int .i64)]], 18, [(2, .v)], [⟨0, 0, .row true 3 [.b (.int .i64)]⟩]⟩)]
noncomputable def cmp_Or_int_s : TSum := TSum.of (baseC (fun _ => none) (fun _ => [])) (Go.Proofs.Tryz.f127.results.toList) 1 cmp_Or_int_i cmp_Or_int_o (fun v => cmp_Or_int v)
noncomputable def cmp_Or_int_z : Code := Option.getD Go.Proofs.Tryz.f127.body .skip
noncomputable def cmp_Or_int_x (gl : Glob) : TCtx := { baseC gl (lookS []) with inl := lookI [], fuel := 0, loops := lookL [(3, cmp_Or_int_l3)], cuts := lookL [] }
theorem cmp_Or_int_v {gl : Glob} : ValidS Go.Proofs.Tryz.prog gl 127 cmp_Or_int_s := by
  refine validS_of (c := cmp_Or_int_x gl) ?_ hm_ Go.Proofs.Tryz.func127 (body := cmp_Or_int_z) ?_ ?_ ?_ ?_ ?_ ?_ ?_ ?_ ?_
  · exact tok_of tyB_ok cmpB_ok .nil .nil
  · kernel_rfl
  · rfl
  · exact annOK_by (l := [∀ v, cmp_Or_int_l3.body v = (roundT (cmp_Or_int_x gl) cmp_Or_int_l3.pat cmp_Or_int_l3.exits (subAt [1, 1, 0, 1, 0, 0] cmp_Or_int_z) v).run]) (by kernel_rfl) (⟨fun (a0, a1, a2) => Eq.symm (by kernel_rfl), trivial⟩)
  · exact fun v => Eq.symm (by kernel_rfl)
  · kernel_rfl
  · kernel_rfl
  · exact exitX_of (.cons (fun v => by kernel_rfl) .nil)
  · rfl
  · rfl
noncomputable def tables_Merge_2_i : Pat := ⟨[.b (.int .u32), .b (.int .u32), .b (.int .u32), .b (.int .u32)], 17, [(0, (.agg [.v, .v])), (1, (.agg [.v, .v]))], []⟩
noncomputable def tables_Merge_2_o : Exits := [(.ret, ⟨[.b (.int .i64)], 17, [(4, .v)], []⟩)]
noncomputable def tables_Merge_2_s : TSum := TSum.of (baseC (fun _ => none) (fun _ => [])) (Go.Proofs.Tryz.f126.results.toList) 0 tables_Merge_2_i tables_Merge_2_o (fun v => tables_Merge_2 v.1 v.2.1 v.2.2.1 v.2.2.2)
noncomputable def tables_Merge_2_z : Code := Option.getD Go.Proofs.Tryz.f126.body .skip
noncomputable def tables_Merge_2_x (gl : Glob) : TCtx := { baseC gl (lookS [(128, [cmp_Compare_uint32_s]), (127, [cmp_Or_int_s])]) with inl := lookI [], fuel := 0, loops := lookL [], cuts := lookL [] }
theorem tables_Merge_2_v {gl : Glob} : ValidS Go.Proofs.Tryz.prog gl 126 tables_Merge_2_s := by
  refine validS_of (c := tables_Merge_2_x gl) ?_ hm_ Go.Proofs.Tryz.func126 (body := tables_Merge_2_z) ?_ ?_ ?_ ?_ ?_ ?_ ?_ ?_ ?_
  · exact tok_of tyB_ok cmpB_ok (.cons (.cons cmp_Compare_uint32_v .nil) (hb_ 128 Go.Proofs.Tryz.func128 (by kernel_rfl) (by kernel_rfl)) (.cons (.cons cmp_Or_int_v .nil) (hb_ 127 Go.Proofs.Tryz.func127 (by kernel_rfl) (by kernel_rfl)) .nil)) .nil
  · kernel_rfl
  · rfl
  · exact annOK_by (l := []) (by kernel_rfl) (trivial)
  · exact fun (a0, a1, a2, a3) => Eq.symm (by kernel_rfl)
  · kernel_rfl
  · kernel_rfl
  · exact exitX_of (.cons (fun v => by kernel_rfl) .nil)
  · rfl
  · rfl
noncomputable def tables_Merge_1_i : Pat := ⟨[.b (.int .u32), .b (.int .u32)], 8, [(0, (.agg [.v, .v]))], []⟩
noncomputable def tables_Merge_1_o : Exits := [(.ret, ⟨[.b .bool], 8, [(2, .v)], []⟩)]
noncomputable def tables_Merge_1_s : TSum := TSum.of (baseC (fun _ => none) (fun _ => [])) (Go.Proofs.Tryz.f124.results.toList) 0 tables_Merge_1_i tables_Merge_1_o (fun v => tables_Merge_1 v.1 v.2)
noncomputable def tables_Merge_1_z : Code := Option.getD Go.Proofs.Tryz.f124.body .skip
noncomputable def tables_Merge_1_x (gl : Glob) : TCtx := { baseC gl (lookS []) with inl := lookI [], fuel := 0, loops := lookL [], cuts := lookL [] }
theorem tables_Merge_1_v {gl : Glob} : ValidS Go.Proofs.Tryz.prog gl 124 tables_Merge_1_s := by
  refine validS_of (c := tables_Merge_1_x gl) ?_ hm_ Go.Proofs.Tryz.func124 (body := tables_Merge_1_z) ?_ ?_ ?_ ?_ ?_ ?_ ?_ ?_ ?_
  · exact tok_of tyB_ok cmpB_ok .nil .nil
  · kernel_rfl
  · rfl
  · exact annOK_by (l := []) (by kernel_rfl) (trivial)
  · exact fun (a0, a1) => Eq.symm (by kernel_rfl)
  · kernel_rfl
  · kernel_rfl
  · exact exitX_of (.cons (fun v => by kernel_rfl) .nil)
  · rfl
  · rfl
end Go.Ts
