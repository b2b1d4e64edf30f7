/- Part 20 of the proof of the statement that the last part names; it asks for no condition of its own. Here: RowCG. -/
import Derived.Test.YtgkfbembnlgahaaGreatDoorQar
import Derived.Test.YtgkfbembnlgahaaGreatDoorQas
/- The row of ChartGiven: from the call to the statement. -/
set_option linter.unusedVariables false
set_option maxRecDepth 100000
namespace Go.Proofs.YtgkfbembnlgahaaGreatDoor
open Go Go.Sx Go.Tx Go.ChangeShapes Go.WideShapes Go.ChangeAt Go.WideElems Go.RowKit
open Go.ChangeMaps (open_string shut_string)

theorem CG_lifted (walk : ∀ (n : Int) (W : World), laidMet Tryz.prog laid8 W → (∃ m, W.cell? ⟨2, 0, none⟩ = some (.int .i64 m)) → (Lit.int .u16 n).wf = true → Calls Tryz.prog 11 #[.int .u16 n] W fun e W' => e = .returned (.bool true) ∧ Go.RowKit.Below W.heap.size W W')
    (os : Os) (started : os.Started) (H : Type) (enc : TypeId × Value → H) :
    ReturnsInHanded {} Tryz.checked os 11 .any (fun w args => (Rows.chartGivenSpec.pre enc Tryz.prog Tryz.f11 [] false w args ∧ laidMetH Tryz.prog laid8 w) ∧ sizedMet enc Tryz.prog Tryz.f11 (OpenSpec.ofChange Rows.chartGivenSpec) false w args)
      (Rows.chartGivenSpec.post enc Tryz.prog Tryz.f11 false true false false) := by
  refine returns_laid (C := Tryz.checked) (X := fun w _ => laidMetH Tryz.prog laid8 w) (fun _ _ _ hh h => h.of_heap hh) own started (by kernel_rfl) Tryz.func11
    (ChangeSpec.witness_shaped (enc := enc) (C := Tryz.checked) (os := os) (X := fun w _ => laidMetH Tryz.prog laid8 w) false (startW8 os) #[.int .u16 0] 8 rfl (start_shaped8 os _) (by kernel_rfl) (by kernel_rfl) (by kernel_rfl) (start_met8 os _)) ?_
  intro W base args ds gs before hval0 hW hL hsh
  have hval : ∀ (j : Nat) t v, Tryz.f11.params[j]? = some t → args[j]? = some v → Value.okWide Tryz.prog W .any base t v := hval0
  have hW' := hW
  obtain ⟨p, q, hA0, hV, rfl, hfz, hnd⟩ := hW
  have hA : DataW.TrodAll enc Tryz.prog W 0 (fun _ => true) true Tryz.f11.params.toList args.toList ds p := hA0
  rw [Tryz.params11] at hA hval
  obtain ⟨v0, d0, rfl, rfl, h0⟩ := trodAll_one hA
  obtain ⟨rfl, rfl⟩ := trodVars_none hV
  obtain ⟨n, rfl, rfl, rfl, ws⟩ := open_int Tryz.underlying23 (hval 0 23 v0 rfl rfl) h0
  have h8 : laidMetH Tryz.prog laid8 W := hL
  rw [MakeChecks.laidMetH_plain _ _ _ (by kernel_rfl)] at h8
  clear hA0 hval0
  simp only [List.append_nil] at hW'
  refine (walk n W h8 (maxlen_of hsh) ws).mono fun e W' ⟨he, hb⟩ => ?_
  subst he
  exact ⟨_, rfl, _, _, _, [], [], [], hW', trodAll_mk1 (shut_bool Tryz.underlying4 _), trodAll_mk1 (shut_int Tryz.underlying23 ws), rfl, hb.frame _, fun h => by cases h⟩

theorem CG_holds (walk : ∀ (n : Int) (W : World), laidMet Tryz.prog laid8 W → (∃ m, W.cell? ⟨2, 0, none⟩ = some (.int .i64 m)) → (Lit.int .u16 n).wf = true → Calls Tryz.prog 11 #[.int .u16 n] W fun e W' => e = .returned (.bool true) ∧ Go.RowKit.Below W.heap.size W W') : Rows.ChartGivenSaid :=
  OpenClaim.holds_of_wide 11 Tryz.f11 rfl rfl rfl rfl rfl rfl rfl ⟨rfl, rfl, rfl, rfl, rfl⟩ rfl rfl rfl rfl rfl (by kernel_rfl) Tryz.func11 CG_closed
    (of_decide_eq_true (by kernel_rfl)) (by unfold Func.isWrapper; first | (rw [if_pos (by decide +kernel)]; kernel_rfl) | (rw [if_neg (by decide +kernel)]; exact ⟨rfl, rfl⟩))
    (fun os started H enc _ => CG_lifted walk os started H enc)
end Go.Proofs.YtgkfbembnlgahaaGreatDoor
