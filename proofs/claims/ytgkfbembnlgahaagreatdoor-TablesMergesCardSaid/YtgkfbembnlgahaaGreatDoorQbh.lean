/- Part 34 of the proof of the statement that the last part names; it asks for no condition of its own. Here: RowTM. -/
import Derived.Test.YtgkfbembnlgahaaGreatDoorQbf
import Derived.Test.YtgkfbembnlgahaaGreatDoorQbg
/- The row of TablesMerges: from the call to the statement. -/
set_option linter.unusedVariables false
set_option maxRecDepth 100000
namespace Go.Proofs.YtgkfbembnlgahaaGreatDoor
open Go Go.Sx Go.Tx Go.ChangeShapes Go.WideShapes Go.ChangeAt Go.WideElems Go.RowKit

abbrev spansAt (W : World) (xs : List Value) (v : Value) (l : List (Int × Int)) : Prop := (∀ s ∈ l, Go.Pc.okS s) ∧ holds (rhoOf xs) v (fun _ => False) (fun k => k < W.heap.size) W (.row false 83 2 (rowsSp l))
abbrev TM_walk : Prop := ∀ (v0 v1 : Value) (l k : List (Int × Int)) (x : Int) (W : World), laidMet Tryz.prog laid7 W → (∃ m, W.cell? ⟨2, 0, none⟩ = some (.int .i64 m)) → spansAt W [v0, v1] v0 l → spansAt W [v0, v1] v1 k → (Lit.int .u32 x).wf = true →
  Calls Tryz.prog 12 #[v0, v1, .int .u32 x] W fun e W' => e = .returned (.bool true) ∧ Go.RowKit.Below W.heap.size W W'
theorem TM_lifted (walk : TM_walk)
    (os : Os) (started : os.Started) (H : Type) (enc : TypeId × Value → H) :
    ReturnsInHanded {} Tryz.checked os 12 .any (fun w args => (Rows.tablesMergesSpec.pre enc Tryz.prog Tryz.f12 [] false w args ∧ laidMetH Tryz.prog laid7 w) ∧ sizedMet enc Tryz.prog Tryz.f12 (OpenSpec.ofChange Rows.tablesMergesSpec) false w args)
      (Rows.tablesMergesSpec.post enc Tryz.prog Tryz.f12 false true false false) := by
  refine returns_laid (C := Tryz.checked) (X := fun w _ => laidMetH Tryz.prog laid7 w) (fun _ _ _ hh h => h.of_heap hh) own started (by kernel_rfl) Tryz.func12
    (ChangeSpec.witness_shaped (enc := enc) (C := Tryz.checked) (os := os) (X := fun w _ => laidMetH Tryz.prog laid7 w) false (startW os) #[.slice none 0 0, .slice none 0 0, .int .u32 0] 8 rfl (World.shaped_of_RefB (by kernel_rfl) (by kernel_rfl)) (by kernel_rfl) (by kernel_rfl) (by kernel_rfl) (start_met os _)) ?_
  intro W base args ds gs before hval0 hW hL hsh
  have hval : ∀ (j : Nat) t v, Tryz.f12.params[j]? = some t → args[j]? = some v → Value.okWide Tryz.prog W .any base t v := hval0
  have hW' := hW
  obtain ⟨p, q, hA0, hV, rfl, hfz, hnd⟩ := hW
  have hA : DataW.TrodAll enc Tryz.prog W 0 (fun _ => true) true Tryz.f12.params.toList args.toList ds p := hA0
  rw [Tryz.params12] at hA hval
  obtain ⟨v0, v1, v2, d0, d1, d2, p0, p1, p2, rfl, rfl, rfl, h0, h1, h2⟩ := trodAll_three hA
  obtain ⟨rfl, rfl⟩ := trodVars_none hV
  obtain ⟨l, hl⟩ := open_spans (ρ := rhoOf [v0, v1]) (hval 0 107 v0 rfl rfl) h0
  obtain ⟨k, hk⟩ := open_spans (ρ := rhoOf [v0, v1]) (hval 1 107 v1 rfl rfl) h1
  obtain ⟨n2, rfl, rfl, rfl, w2⟩ := open_int Tryz.underlying22 (hval 2 22 v2 rfl rfl) h2
  have h7 : laidMetH Tryz.prog laid7 W := hL
  rw [MakeChecks.laidMetH_plain _ _ _ (by kernel_rfl)] at h7
  have hlt := hA.lt
  clear hA0 hval0
  simp only [List.append_nil] at hW'
  refine (walk v0 v1 l k n2 W h7 (maxlen_of hsh) hl hk w2).mono fun e W' ⟨he, hb⟩ => ?_
  subst he
  refine ⟨_, rfl, _, _, _, [], p0 ++ (p1 ++ []), [], hW', trodAll_mk1 (shut_bool Tryz.underlying4 _), ?_, rfl, hb.frame _, fun h => by cases h⟩
  exact trodAll_mk3 (Below.trod (P := Tryz.prog) TM_k1 (by kernel_rfl) (of_decide_eq_true (by kernel_rfl)) h0 hb (fun x hx => hlt x (by simp [hx])))
    (Below.trod (P := Tryz.prog) TM_k1 (by kernel_rfl) (of_decide_eq_true (by kernel_rfl)) h1 hb (fun x hx => hlt x (by simp [hx]))) (shut_int Tryz.underlying22 w2)

theorem TM_holds (walk : TM_walk) : Rows.TablesMergesSaid :=
  OpenClaim.holds_of_wide 12 Tryz.f12 rfl rfl rfl rfl rfl rfl rfl ⟨rfl, rfl, rfl, rfl, rfl⟩ rfl rfl rfl rfl rfl (by kernel_rfl) Tryz.func12 TM_closed
    (of_decide_eq_true (by kernel_rfl)) (by unfold Func.isWrapper; first | (rw [if_pos (by decide +kernel)]; kernel_rfl) | (rw [if_neg (by decide +kernel)]; exact ⟨rfl, rfl⟩))
    (fun os started H enc _ => TM_lifted walk os started H enc)
end Go.Proofs.YtgkfbembnlgahaaGreatDoor
