/- Part 19 of the proof of the statement that the last part names; it asks for no condition of its own. Here: GenMrB. -/
import Derived.Test.YtgkfbembnlgahaaGreatDoorQag
import Derived.Test.YtgkfbembnlgahaaGreatDoorQan
import Derived.Test.YtgkfbembnlgahaaGreatDoorQap
import Derived.Test.YtgkfbembnlgahaaGreatDoorQar
set_option linter.all false
set_option linter.unusedVariables false
set_option maxRecDepth 100000
set_option maxHeartbeats 0
namespace Go.Tx
open Go Go.Sx
noncomputable def tables_Merge_i2_l5 : Loop1 := ⟨⟨[.b (.int .i64), .b (.int .i64), .r KzP, .r KzP, .r KzP], 60, [(3, (.own 5000)), (12, (.own 1080)), (13, .v), (14, .v)], [⟨1080, 0, .row true 83 KzP⟩, ⟨0, 0, .row true 83 KzP⟩, ⟨5000, 0, .row true 83 KzP⟩]⟩, [(.exit 0, ⟨[.r KzP, .r KzP], 60, [(3, (.own 5000))], [⟨5000, 0, .row true 83 KzP⟩, ⟨0, 0, .row true 83 KzP⟩]⟩)], tables_Merge_i2_b5⟩
noncomputable def tables_Merge_i2_i : Pat := ⟨[.r KzP], 60, [(0, (.own 0))], [⟨0, 0, .row true 83 KzP⟩]⟩
noncomputable def tables_Merge_i2_o : Exits := [(.ret, ⟨[.r KzP, .r KzP], 60, [(2, (.own 5000))], [⟨5000, 0, .row true 83 KzP⟩, ⟨0, 0, .row true 83 KzP⟩]⟩)]
noncomputable def tables_Merge_i2_s : TSum := TSum.of (baseC (fun _ => none) (fun _ => [])) (Go.Proofs.Tryz.f56.results.toList) 1 tables_Merge_i2_i tables_Merge_i2_o (fun v => tables_Merge_i2 v)
noncomputable def tables_Merge_i2_z : Code := Option.getD Go.Proofs.Tryz.f56.body .skip
noncomputable def tables_Merge_i2_x (gl : Glob) : TCtx := { baseC gl (lookS [(125, [slices_SortFunc_s]), (123, [slices_CloneW_s]), (122, [slices_DeleteFunc_s])]) with inl := lookI [], fuel := 0, loops := lookL [(5, tables_Merge_i2_l5)], cuts := lookL [] }
theorem tables_Merge_i2_v {gl : Glob} (hg : Gs gl) : ValidS Go.Proofs.Tryz.prog gl 56 tables_Merge_i2_s := by
  refine validS_of (c := tables_Merge_i2_x gl) ?_ hm_ Go.Proofs.Tryz.func56 (body := tables_Merge_i2_z) ?_ ?_ ?_ ?_ ?_ ?_ ?_ ?_ ?_
  · exact tok_of tyB_ok cmpB_ok (.cons (.cons (slices_SortFunc_v hg) .nil) (hb_ 125 Go.Proofs.Tryz.func125 (by kernel_rfl) (by kernel_rfl)) (.cons (.cons (slices_CloneW_v hg) .nil) (hb_ 123 Go.Proofs.Tryz.func123 (by kernel_rfl) (by kernel_rfl)) (.cons (.cons (slices_DeleteFunc_v hg) .nil) (hb_ 122 Go.Proofs.Tryz.func122 (by kernel_rfl) (by kernel_rfl)) .nil))) .nil
  · kernel_rfl
  · rfl
  · exact annOK_by (l := [∀ v, tables_Merge_i2_l5.body v = (roundT (tables_Merge_i2_x gl) tables_Merge_i2_l5.pat tables_Merge_i2_l5.exits (subAt [1, 1, 1, 1, 0, 1, 0, 0] tables_Merge_i2_z) v).run]) (by kernel_rfl) (⟨fun (a0, a1, a2, a3, a4) => Eq.symm (by kernel_rfl), trivial⟩)
  · exact fun v => Eq.symm (by kernel_rfl)
  · kernel_rfl
  · kernel_rfl
  · exact exitX_of (.cons (fun v => by kernel_rfl) .nil)
  · rfl
  · rfl
noncomputable def ref06_In_l2 : Loop1 := ⟨⟨[.b (.int .u32), .b (.int .i64), .r KzP], 18, [(0, (.own 0)), (1, .v), (5, .v)], [⟨0, 0, .row false 83 KzP⟩]⟩, [(.ret, ⟨[.b .bool, .r KzP], 18, [(4, .v)], [⟨0, 0, .row false 83 KzP⟩]⟩), (.exit 0, ⟨[.r KzP], 18, [], [⟨0, 0, .row false 83 KzP⟩]⟩)], ref06_In_b2⟩
noncomputable def ref06_In_i : Pat := ⟨[.b (.int .u32), .r KzP], 18, [(0, (.own 0)), (1, .v)], [⟨0, 0, .row false 83 KzP⟩]⟩
noncomputable def ref06_In_o : Exits := [(.ret, ⟨[.b .bool, .r KzP], 18, [(4, .v)], [⟨0, 0, .row false 83 KzP⟩]⟩)]
noncomputable def ref06_In_s : TSum := TSum.of (baseC (fun _ => none) (fun _ => [])) (Go.Proofs.Tryz.f60.results.toList) 1 ref06_In_i ref06_In_o (fun v => ref06_In v.1 v.2)
noncomputable def ref06_In_z : Code := Option.getD Go.Proofs.Tryz.f60.body .skip
noncomputable def ref06_In_x (gl : Glob) : TCtx := { baseC gl (lookS [(72, [ref06_Has_s])]) with inl := lookI [], fuel := 0, loops := lookL [(2, ref06_In_l2)], cuts := lookL [] }
theorem ref06_In_v {gl : Glob} (hg : Gs gl) : ValidS Go.Proofs.Tryz.prog gl 60 ref06_In_s := by
  refine validS_of (c := ref06_In_x gl) ?_ hm_ Go.Proofs.Tryz.func60 (body := ref06_In_z) ?_ ?_ ?_ ?_ ?_ ?_ ?_ ?_ ?_
  · exact tok_of tyB_ok cmpB_ok (.cons (.cons (ref06_Has_v hg) .nil) (hb_ 72 Go.Proofs.Tryz.func72 (by kernel_rfl) (by kernel_rfl)) .nil) .nil
  · kernel_rfl
  · rfl
  · exact annOK_by (l := [∀ v, ref06_In_l2.body v = (roundT (ref06_In_x gl) ref06_In_l2.pat ref06_In_l2.exits (subAt [1, 0, 1, 0, 0] ref06_In_z) v).run]) (by kernel_rfl) (⟨fun (a0, a1, a2) => Eq.symm (by kernel_rfl), trivial⟩)
  · exact fun (a0, a1) => Eq.symm (by kernel_rfl)
  · kernel_rfl
  · kernel_rfl
  · exact exitX_of (.cons (fun v => by kernel_rfl) .nil)
  · rfl
  · rfl
end Go.Tx
