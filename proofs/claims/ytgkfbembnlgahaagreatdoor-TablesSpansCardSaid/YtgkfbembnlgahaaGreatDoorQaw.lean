/- Part 23 of the proof of the statement that the last part names; it asks for no condition of its own. Here: GenRgB. -/
import Derived.Test.YtgkfbembnlgahaaGreatDoorQau
import Derived.Test.YtgkfbembnlgahaaGreatDoorQav
set_option linter.all false
set_option linter.unusedVariables false
set_option maxRecDepth 100000
set_option maxHeartbeats 0
namespace Go.Tx
open Go Go.Sx
noncomputable def ref08_Tables_Range_l2 : Loop1 := ⟨⟨[.b (.int .u32), .b (.int .i64), .b (.int .u32), .b (.int .u32), .b .str, .b .str, .b .str, .b .bool, .r KzR, .r KzT, .r KzD, .r KzT, .r KzT, .r KzN], 28, [(1, .v), (2, (.ptr 102 0)), (4, (.ptr 104 0)), (6, .v)], [⟨102, 0, .cells [(.own 0), (.own 1), (.own 2), (.own 3), (.own 4), (.own 5)]⟩, ⟨104, 0, .cells [.v, .v, .v, .v, .v, .v]⟩, ⟨0, 0, .row true 98 KzR⟩, ⟨1, 0, .row true 85 KzT⟩, ⟨2, 0, .row true 68 KzD⟩, ⟨3, 0, .row true 87 KzT⟩, ⟨4, 0, .row true 87 KzT⟩, ⟨5, 0, .row true 100 KzN⟩]⟩, [(.ret, ⟨[.b (.int .u32), .b (.int .u32), .b .str, .b .str, .b .str, .b .bool, .r KzR, .r KzT, .r KzD, .r KzT, .r KzT, .r KzN], 28, [(4, (.ptr 104 0)), (5, (.lit (.bool true)))], [⟨104, 0, .cells [.v, .v, .v, .v, .v, .v]⟩, ⟨0, 0, .row true 98 KzR⟩, ⟨1, 0, .row true 85 KzT⟩, ⟨2, 0, .row true 68 KzD⟩, ⟨3, 0, .row true 87 KzT⟩, ⟨4, 0, .row true 87 KzT⟩, ⟨5, 0, .row true 100 KzN⟩]⟩), (.exit 0, ⟨[.b (.int .u32), .b (.int .u32), .b .str, .b .str, .b .str, .b .bool, .r KzR, .r KzT, .r KzD, .r KzT, .r KzT, .r KzN], 28, [(4, (.ptr 104 0))], [⟨104, 0, .cells [.v, .v, .v, .v, .v, .v]⟩, ⟨0, 0, .row true 98 KzR⟩, ⟨1, 0, .row true 85 KzT⟩, ⟨2, 0, .row true 68 KzD⟩, ⟨3, 0, .row true 87 KzT⟩, ⟨4, 0, .row true 87 KzT⟩, ⟨5, 0, .row true 100 KzN⟩]⟩)], ref08_Tables_Range_b2⟩
noncomputable def ref08_Tables_Range_i : Pat := ⟨[.b (.int .u32), .r KzR, .r KzT, .r KzD, .r KzT, .r KzT, .r KzN], 28, [(0, (.agg [(.own 0), (.own 1), (.own 2), (.own 3), (.own 4), (.own 5)])), (1, .v)], [⟨0, 0, .row true 98 KzR⟩, ⟨1, 0, .row true 85 KzT⟩, ⟨2, 0, .row true 68 KzD⟩, ⟨3, 0, .row true 87 KzT⟩, ⟨4, 0, .row true 87 KzT⟩, ⟨5, 0, .row true 100 KzN⟩]⟩
noncomputable def ref08_Tables_Range_o : Exits := [(.ret, ⟨[.b (.int .u32), .b (.int .u32), .b .str, .b .str, .b .str, .b .bool, .r KzR, .r KzT, .r KzD, .r KzT, .r KzT, .r KzN], 28, [(4, (.ptr 104 0)), (5, (.lit (.bool true)))], [⟨104, 0, .cells [.v, .v, .v, .v, .v, .v]⟩, ⟨0, 0, .row true 98 KzR⟩, ⟨1, 0, .row true 85 KzT⟩, ⟨2, 0, .row true 68 KzD⟩, ⟨3, 0, .row true 87 KzT⟩, ⟨4, 0, .row true 87 KzT⟩, ⟨5, 0, .row true 100 KzN⟩]⟩), (.ret, ⟨[.b (.int .u32), .b (.int .u32), .b .str, .b .str, .b .str, .b .bool, .r KzR, .r KzT, .r KzD, .r KzT, .r KzT, .r KzN], 28, [(4, (.ptr 104 0)), (5, (.lit (.bool false)))], [⟨104, 0, .cells [.v, .v, .v, .v, .v, .v]⟩, ⟨0, 0, .row true 98 KzR⟩, ⟨1, 0, .row true 85 KzT⟩, ⟨2, 0, .row true 68 KzD⟩, ⟨3, 0, .row true 87 KzT⟩, ⟨4, 0, .row true 87 KzT⟩, ⟨5, 0, .row true 100 KzN⟩]⟩)]
noncomputable def ref08_Tables_Range_s : TSum := TSum.of (baseC (fun _ => none) (fun _ => [])) (Go.Proofs.Tryz.f61.results.toList) 6 ref08_Tables_Range_i ref08_Tables_Range_o (fun v => ref08_Tables_Range v.1 v.2.1 v.2.2.1 v.2.2.2.1 v.2.2.2.2.1 v.2.2.2.2.2.1 v.2.2.2.2.2.2)
noncomputable def ref08_Tables_Range_z : Code := Option.getD Go.Proofs.Tryz.f61.body .skip
noncomputable def ref08_Tables_Range_x (gl : Glob) : TCtx := { baseC gl (lookS [(72, [ref06_Has_s])]) with inl := lookI [], fuel := 0, loops := lookL [(2, ref08_Tables_Range_l2)], cuts := lookL [] }
theorem ref08_Tables_Range_v {gl : Glob} (hg : Gs gl) : ValidS Go.Proofs.Tryz.prog gl 61 ref08_Tables_Range_s := by
  refine validS_of (c := ref08_Tables_Range_x gl) ?_ hm_ Go.Proofs.Tryz.func61 (body := ref08_Tables_Range_z) ?_ ?_ ?_ ?_ ?_ ?_ ?_ ?_ ?_
  · exact tok_of tyB_ok cmpB_ok (.cons (.cons (ref06_Has_v hg) .nil) (hb_ 72 Go.Proofs.Tryz.func72 (by kernel_rfl) (by kernel_rfl)) .nil) .nil
  · kernel_rfl
  · rfl
  · exact annOK_by (l := [∀ v, ref08_Tables_Range_l2.body v = (roundT (ref08_Tables_Range_x gl) ref08_Tables_Range_l2.pat ref08_Tables_Range_l2.exits (subAt [1, 0, 1, 0, 0] ref08_Tables_Range_z) v).run]) (by kernel_rfl) (⟨fun (a0, a1, a2, a3, a4, a5, a6, a7, a8, a9, a10, a11, a12, a13) => Eq.symm (by kernel_rfl), trivial⟩)
  · exact fun (a0, a1, a2, a3, a4, a5, a6) => Eq.symm (by kernel_rfl)
  · kernel_rfl
  · kernel_rfl
  · exact exitX_of (.cons (fun v => by kernel_rfl) (.cons (fun v => by kernel_rfl) .nil))
  · rfl
  · rfl
end Go.Tx
