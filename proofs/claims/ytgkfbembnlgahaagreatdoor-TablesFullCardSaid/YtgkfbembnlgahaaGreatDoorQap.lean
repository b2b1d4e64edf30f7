/- Part 16 of the proof of the statement that the last part names; it asks for no condition of its own. Here: RowTF. -/
import Derived.Test.YtgkfbembnlgahaaGreatDoorQan
import Derived.Test.YtgkfbembnlgahaaGreatDoorQao
/- The row of TablesFull: from the call to the statement. -/
set_option linter.unusedVariables false
set_option maxRecDepth 100000
namespace Go.Proofs.YtgkfbembnlgahaaGreatDoor
open Go Go.Sx Go.Tx Go.ChangeShapes Go.WideShapes Go.ChangeAt Go.WideElems Go.RowKit

theorem maxlen_of {W : World} (h : W.ShapedOpen Tryz.prog) : ∃ m, W.cell? ⟨2, 0, none⟩ = some (.int .i64 m) :=
  cell_of_shapedOpen_int (t := 3) (zero := #[.int .i64 0]) h (of_decide_eq_true (by kernel_rfl)) (by kernel_rfl) rfl (by kernel_rfl) (by kernel_rfl) Tryz.underlying3

/-- The start: what the door's run leaves, and Go's own table beside it. -/
noncomputable def startW (os : Os) : World :=
  let w0 := World.doorLaid Tryz.prog 400 os
  { w0 with heap := w0.heap.modify 5 fun
    | .cells _ t frozen => .cells (Lib.firstTab.map fun z => Value.int .u8 z).toArray t frozen
    | o => o }
theorem start_met (os : Os) (args : Array Value) : laidMetH Tryz.prog laid7 ((startW os).forCall (fun _ _ => 0) ⟨#[], args, []⟩).memory :=
  laidMetH_of_parts3 (fuel := 8) (laidMet_of_run' 8 (by kernel_rfl) (by kernel_rfl)) (by kernel_rfl) (by kernel_rfl)

theorem tf_lifted (walk : ∀ (p a : Int) (c : Bool) (W : World) (gl : Glob), Gs gl → GLw gl W → (Lit.int .u32 p).wf = true → (Lit.int .u16 a).wf = true → Calls Tryz.prog 3 #[.int .u32 p, .int .u16 a, .bool c] W fun e W' => e = .returned (.bool true) ∧ Go.RowKit.Below W.heap.size W W')
    (os : Os) (started : os.Started) (H : Type) (enc : TypeId × Value → H) :
    ReturnsInHanded {} Tryz.checked os 3 .any (fun w args => (Rows.tablesFullSpec.pre enc Tryz.prog Tryz.f3 [] false w args ∧ laidMetH Tryz.prog laid7 w) ∧ sizedMet enc Tryz.prog Tryz.f3 (OpenSpec.ofChange Rows.tablesFullSpec) false w args)
      (Rows.tablesFullSpec.post enc Tryz.prog Tryz.f3 false true false false) := by
  refine returns_laid (C := Tryz.checked) (X := fun w _ => laidMetH Tryz.prog laid7 w) (fun _ _ _ hh h => h.of_heap hh) own started (by kernel_rfl) Tryz.func3
    (ChangeSpec.witness_shaped (enc := enc) (C := Tryz.checked) (os := os) (X := fun w _ => laidMetH Tryz.prog laid7 w) false (startW os) #[.int .u32 0, .int .u16 0, .bool false] 8 rfl (World.shaped_of_RefB (by kernel_rfl) (by kernel_rfl)) (by kernel_rfl) (by kernel_rfl) (by kernel_rfl) (start_met os _)) ?_
  intro W base args ds gs before hval0 hW hL hsh
  have hval : ∀ (j : Nat) t v, Tryz.f3.params[j]? = some t → args[j]? = some v → Value.okWide Tryz.prog W .any base t v := hval0
  have hW' := hW
  obtain ⟨p, q, hA0, hV, rfl, hfz, hnd⟩ := hW
  have hA : DataW.TrodAll enc Tryz.prog W 0 (fun _ => true) true Tryz.f3.params.toList args.toList ds p := hA0
  rw [Tryz.params3] at hA hval
  obtain ⟨v0, v1, v2, d0, d1, d2, p0, p1, p2, rfl, rfl, rfl, h0, h1, h2⟩ := trodAll_three hA
  obtain ⟨rfl, rfl⟩ := trodVars_none hV
  obtain ⟨n0, rfl, rfl, rfl, w0⟩ := open_int Tryz.underlying22 (hval 0 22 v0 rfl rfl) h0
  obtain ⟨n1, rfl, rfl, rfl, w1⟩ := open_int Tryz.underlying23 (hval 1 23 v1 rfl rfl) h1
  obtain ⟨c, rfl, rfl, rfl⟩ := open_bool Tryz.underlying4 (hval 2 4 v2 rfl rfl) h2
  have h7 : laidMetH Tryz.prog laid7 W := hL
  rw [MakeChecks.laidMetH_plain _ _ _ (by kernel_rfl)] at h7
  have hU : Lib.Utf8Tabs 5 6 W := tabs_of h7
  obtain ⟨m, hm⟩ := maxlen_of hsh
  clear hA0 hval0
  simp only [List.append_nil] at hW'
  refine (walk n0 n1 c W (glOf W) (gs_of hU hm) (glOf_w W) w0 w1).mono fun e W' ⟨he, hb⟩ => ?_
  subst he
  exact ⟨_, rfl, _, _, _, [], [], [], hW', trodAll_mk1 (shut_bool Tryz.underlying4 _), trodAll_mk3 (shut_int Tryz.underlying22 w0) (shut_int Tryz.underlying23 w1) (shut_bool Tryz.underlying4 _), rfl, hb.frame _, fun h => by cases h⟩

theorem tf_holds (walk : ∀ (p a : Int) (c : Bool) (W : World) (gl : Glob), Gs gl → GLw gl W → (Lit.int .u32 p).wf = true → (Lit.int .u16 a).wf = true → Calls Tryz.prog 3 #[.int .u32 p, .int .u16 a, .bool c] W fun e W' => e = .returned (.bool true) ∧ Go.RowKit.Below W.heap.size W W') : Rows.TablesFullSaid :=
  OpenClaim.holds_of_wide 3 Tryz.f3 rfl rfl rfl rfl rfl rfl rfl ⟨rfl, rfl, rfl, rfl, rfl⟩ rfl rfl rfl rfl rfl (by kernel_rfl) Tryz.func3 TF_closed
    (of_decide_eq_true (by kernel_rfl)) (by unfold Func.isWrapper; first | (rw [if_pos (by decide +kernel)]; kernel_rfl) | (rw [if_neg (by decide +kernel)]; exact ⟨rfl, rfl⟩))
    (fun os started H enc _ => tf_lifted walk os started H enc)
end Go.Proofs.YtgkfbembnlgahaaGreatDoor
