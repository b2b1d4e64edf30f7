/- Part 19 of the proof of the statement that the last part names; it asks for no condition of its own. Here: RowCP. -/
import Derived.Test.YtgkfbembnlgahaaDoorQaq
import Derived.Test.YtgkfbembnlgahaaDoorQar
set_option linter.unusedVariables false
set_option maxRecDepth 100000
namespace Go.Proofs.YtgkfbembnlgahaaDoor
open Go Go.Sx Go.Tx Go.ChangeShapes Go.WideShapes Go.ChangeAt Go.WideElems Go.RowKit
abbrev wordsAt (W : World) (xs : List Value) (v : Value) (l : List Int) : Prop := (∀ n ∈ l, Go.Pc.okU n) ∧ holds (rhoOf xs) v (fun _ => False) (fun k => k < W.heap.size) W (.row false 25 1 (rowsU l))
abbrev CP_walk : Prop := ∀ (v : Value) (l : List Int) (W : World), laidMet Tryd.prog laid8 W → (∃ m, W.cell? ⟨4, 0, none⟩ = some (.int .i64 m)) → wordsAt W [v] v l →
  Calls Tryd.prog 3 #[v] W fun e W' => e = .returned (.bool true) ∧ Go.RowKit.Below W.heap.size W W'
theorem CP_lifted (walk : CP_walk)
    (os : Os) (started : os.Started) (H : Type) (enc : TypeId × Value → H) :
    ReturnsInHanded {} Tryd.checked os 3 .any (fun w args => (Rows.chartPointsSpec.pre enc Tryd.prog Tryd.f3 [] false w args ∧ laidMetH Tryd.prog laid8 w) ∧ sizedMet enc Tryd.prog Tryd.f3 (OpenSpec.ofChange Rows.chartPointsSpec) false w args)
      (Rows.chartPointsSpec.post enc Tryd.prog Tryd.f3 false true false false) := by
  refine returns_laid (C := Tryd.checked) (X := fun w _ => laidMetH Tryd.prog laid8 w) (fun _ _ _ hh h => h.of_heap hh) own started (by kernel_rfl) Tryd.func3
    (ChangeSpec.witness_shaped (enc := enc) (C := Tryd.checked) (os := os) (X := fun w _ => laidMetH Tryd.prog laid8 w) false (startW8 os) #[.slice none 0 0] 8 rfl (start_shaped8 os _) (by kernel_rfl) (by kernel_rfl) (by kernel_rfl) (start_met8 os _)) ?_
  intro W base args ds gs before hval0 hW hL hsh
  have hval : ∀ (j : Nat) t v, Tryd.f3.params[j]? = some t → args[j]? = some v → Value.okWide Tryd.prog W .any base t v := hval0
  have hW' := hW
  obtain ⟨p, q, hA0, hV, rfl, hfz, hnd⟩ := hW
  have hA : DataW.TrodAll enc Tryd.prog W 0 (fun _ => true) true Tryd.f3.params.toList args.toList ds p := hA0
  rw [Tryd.params3] at hA hval
  obtain ⟨v0, d0, rfl, rfl, h0⟩ := trodAll_one hA
  obtain ⟨rfl, rfl⟩ := trodVars_none hV
  obtain ⟨l, hl⟩ := open_words (ρ := rhoOf [v0]) (hval 0 22 v0 rfl rfl) h0
  have h8 : laidMetH Tryd.prog laid8 W := hL
  rw [MakeChecks.laidMetH_plain _ _ _ (by kernel_rfl)] at h8
  have hlt := hA.lt
  clear hA0 hval0
  simp only [List.append_nil] at hW'
  refine (walk v0 l W h8 (maxlen_of hsh) hl).mono fun e W' ⟨he, hb⟩ => ?_
  subst he
  exact ⟨_, rfl, _, _, _, [], _, [], hW', trodAll_mk1 (shut_bool Tryd.underlying4 _), trodAll_mk1 (Below.trod (P := Tryd.prog) CP_k1 (by kernel_rfl) (of_decide_eq_true (by kernel_rfl)) h0 hb (fun x hx => hlt x hx)), rfl, hb.frame _, fun h => by cases h⟩

theorem CP_holds (walk : CP_walk) : Rows.ChartPointsSaid :=
  OpenClaim.holds_of_wide 3 Tryd.f3 rfl rfl rfl rfl rfl rfl rfl ⟨rfl, rfl, rfl, rfl, rfl⟩ rfl rfl rfl rfl rfl (by kernel_rfl) Tryd.func3 CP_closed
    (of_decide_eq_true (by kernel_rfl)) (by unfold Func.isWrapper; first | (rw [if_pos (by decide +kernel)]; kernel_rfl) | (rw [if_neg (by decide +kernel)]; exact ⟨rfl, rfl⟩))
    (fun os started H enc _ => CP_lifted walk os started H enc)
end Go.Proofs.YtgkfbembnlgahaaDoor
