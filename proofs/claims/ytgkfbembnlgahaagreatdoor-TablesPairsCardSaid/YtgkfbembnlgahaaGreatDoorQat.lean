/- Part 20 of the proof of the statement that the last part names; it asks for no condition of its own. Here: RowTP. -/
import Derived.Test.YtgkfbembnlgahaaGreatDoorQar
import Derived.Test.YtgkfbembnlgahaaGreatDoorQas
/- The row of TablesPairs: from the call to the statement. -/
set_option linter.unusedVariables false
set_option maxRecDepth 100000
namespace Go.Proofs.YtgkfbembnlgahaaGreatDoor
open Go Go.Sx Go.Tx Go.ChangeShapes Go.WideShapes Go.ChangeAt Go.WideElems Go.RowKit

theorem tp_lifted (walk : ∀ (p a : Int) (W : World) (gl : Glob), Gs gl → GLw gl W → (Lit.int .u32 p).wf = true → (Lit.int .u32 a).wf = true → Calls Tryz.prog 4 #[.int .u32 p, .int .u32 a] W fun e W' => e = .returned (.bool true) ∧ Go.RowKit.Below W.heap.size W W')
    (os : Os) (started : os.Started) (H : Type) (enc : TypeId × Value → H) :
    ReturnsInHanded {} Tryz.checked os 4 .any (fun w args => (Rows.tablesPairsSpec.pre enc Tryz.prog Tryz.f4 [] false w args ∧ laidMetH Tryz.prog laid7 w) ∧ sizedMet enc Tryz.prog Tryz.f4 (OpenSpec.ofChange Rows.tablesPairsSpec) false w args)
      (Rows.tablesPairsSpec.post enc Tryz.prog Tryz.f4 false true false false) := by
  refine returns_laid (C := Tryz.checked) (X := fun w _ => laidMetH Tryz.prog laid7 w) (fun _ _ _ hh h => h.of_heap hh) own started (by kernel_rfl) Tryz.func4
    (ChangeSpec.witness_shaped (enc := enc) (C := Tryz.checked) (os := os) (X := fun w _ => laidMetH Tryz.prog laid7 w) false (startW os) #[.int .u32 0, .int .u32 0] 8 rfl (World.shaped_of_RefB (by kernel_rfl) (by kernel_rfl)) (by kernel_rfl) (by kernel_rfl) (by kernel_rfl) (start_met os _)) ?_
  intro W base args ds gs before hval0 hW hL hsh
  have hval : ∀ (j : Nat) t v, Tryz.f4.params[j]? = some t → args[j]? = some v → Value.okWide Tryz.prog W .any base t v := hval0
  have hW' := hW
  obtain ⟨p, q, hA0, hV, rfl, hfz, hnd⟩ := hW
  have hA : DataW.TrodAll enc Tryz.prog W 0 (fun _ => true) true Tryz.f4.params.toList args.toList ds p := hA0
  rw [Tryz.params4] at hA hval
  obtain ⟨v0, v1, d0, d1, p0, p1, rfl, rfl, rfl, h0, h1⟩ := trodAll_two hA
  obtain ⟨rfl, rfl⟩ := trodVars_none hV
  obtain ⟨n0, rfl, rfl, rfl, w0⟩ := open_int Tryz.underlying22 (hval 0 22 v0 rfl rfl) h0
  obtain ⟨n1, rfl, rfl, rfl, w1⟩ := open_int Tryz.underlying22 (hval 1 22 v1 rfl rfl) h1
  have h7 : laidMetH Tryz.prog laid7 W := hL
  rw [MakeChecks.laidMetH_plain _ _ _ (by kernel_rfl)] at h7
  have hU : Lib.Utf8Tabs 5 6 W := tabs_of h7
  obtain ⟨m, hm⟩ := maxlen_of hsh
  clear hA0 hval0
  simp only [List.append_nil] at hW'
  refine (walk n0 n1 W (glOf W) (gs_of hU hm) (glOf_w W) w0 w1).mono fun e W' ⟨he, hb⟩ => ?_
  subst he
  exact ⟨_, rfl, _, _, _, [], [], [], hW', trodAll_mk1 (shut_bool Tryz.underlying4 _), trodAll_mk2 (shut_int Tryz.underlying22 w0) (shut_int Tryz.underlying22 w1), rfl, hb.frame _, fun h => by cases h⟩

theorem tp_holds (walk : ∀ (p a : Int) (W : World) (gl : Glob), Gs gl → GLw gl W → (Lit.int .u32 p).wf = true → (Lit.int .u32 a).wf = true → Calls Tryz.prog 4 #[.int .u32 p, .int .u32 a] W fun e W' => e = .returned (.bool true) ∧ Go.RowKit.Below W.heap.size W W') : Rows.TablesPairsSaid :=
  OpenClaim.holds_of_wide 4 Tryz.f4 rfl rfl rfl rfl rfl rfl rfl ⟨rfl, rfl, rfl, rfl, rfl⟩ rfl rfl rfl rfl rfl (by kernel_rfl) Tryz.func4 TP_closed
    (of_decide_eq_true (by kernel_rfl)) (by unfold Func.isWrapper; first | (rw [if_pos (by decide +kernel)]; kernel_rfl) | (rw [if_neg (by decide +kernel)]; exact ⟨rfl, rfl⟩))
    (fun os started H enc _ => tp_lifted walk os started H enc)
end Go.Proofs.YtgkfbembnlgahaaGreatDoor
