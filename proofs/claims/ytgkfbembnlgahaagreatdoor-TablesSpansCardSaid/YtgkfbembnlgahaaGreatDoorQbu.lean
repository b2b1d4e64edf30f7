/- Part 47 of the proof of the statement that the last part names; it asks for no condition of its own. Here: RowTS. -/
import Derived.Test.YtgkfbembnlgahaaGreatDoorQbs
import Derived.Test.YtgkfbembnlgahaaGreatDoorQbt
set_option linter.unusedVariables false
set_option maxRecDepth 100000
namespace Go.Proofs.YtgkfbembnlgahaaGreatDoor
open Go Go.Sx Go.Tx Go.ChangeShapes Go.WideShapes Go.ChangeAt Go.WideElems Go.RowKit
abbrev textsAt (W : World) (xs : List Value) (v : Value) (l : List ByteArray) : Prop := holds (rhoOf xs) v (fun _ => False) (fun k => k < W.heap.size) W (.row false 9 1 (rowsSt l))
abbrev TS_walk : Prop := ∀ (x : Int) (v1 : Value) (l : List ByteArray) (c : Bool) (W : World), laidMet Tryz.prog laid7 W → (∃ m, W.cell? ⟨2, 0, none⟩ = some (.int .i64 m)) → textsAt W [v1] v1 l → (Lit.int .u32 x).wf = true →
  Calls Tryz.prog 13 #[.int .u32 x, v1, .bool c] W fun e W' => e = .returned (.bool true) ∧ Go.RowKit.Below W.heap.size W W'
theorem TS_lifted (walk : TS_walk)
    (os : Os) (started : os.Started) (H : Type) (enc : TypeId × Value → H) :
    ReturnsInHanded {} Tryz.checked os 13 .any (fun w args => (Rows.tablesSpansSpec.pre enc Tryz.prog Tryz.f13 [] false w args ∧ laidMetH Tryz.prog laid7 w) ∧ sizedMet enc Tryz.prog Tryz.f13 (OpenSpec.ofChange Rows.tablesSpansSpec) false w args)
      (Rows.tablesSpansSpec.post enc Tryz.prog Tryz.f13 false true false false) := by
  refine returns_laid (C := Tryz.checked) (X := fun w _ => laidMetH Tryz.prog laid7 w) (fun _ _ _ hh h => h.of_heap hh) own started (by kernel_rfl) Tryz.func13
    (ChangeSpec.witness_shaped (enc := enc) (C := Tryz.checked) (os := os) (X := fun w _ => laidMetH Tryz.prog laid7 w) false (startW os) #[.int .u32 0, .slice none 0 0, .bool false] 8 rfl (World.shaped_of_RefB (by kernel_rfl) (by kernel_rfl)) (by kernel_rfl) (by kernel_rfl) (by kernel_rfl) (start_met os _)) ?_
  intro W base args ds gs before hval0 hW hL hsh
  have hval : ∀ (j : Nat) t v, Tryz.f13.params[j]? = some t → args[j]? = some v → Value.okWide Tryz.prog W .any base t v := hval0
  have hW' := hW
  obtain ⟨p, q, hA0, hV, rfl, hfz, hnd⟩ := hW
  have hA : DataW.TrodAll enc Tryz.prog W 0 (fun _ => true) true Tryz.f13.params.toList args.toList ds p := hA0
  rw [Tryz.params13] at hA hval
  obtain ⟨v0, v1, v2, d0, d1, d2, p0, p1, p2, rfl, rfl, rfl, h0, h1, h2⟩ := trodAll_three hA
  obtain ⟨rfl, rfl⟩ := trodVars_none hV
  obtain ⟨n0, rfl, rfl, rfl, w0⟩ := open_int Tryz.underlying22 (hval 0 22 v0 rfl rfl) h0
  obtain ⟨l, hl⟩ := open_texts (ρ := rhoOf [v1]) (hval 1 113 v1 rfl rfl) h1
  obtain ⟨c, rfl, rfl, rfl⟩ := open_bool Tryz.underlying4 (hval 2 4 v2 rfl rfl) h2
  have h7 : laidMetH Tryz.prog laid7 W := hL
  rw [MakeChecks.laidMetH_plain _ _ _ (by kernel_rfl)] at h7
  have hlt := hA.lt
  clear hA0 hval0
  simp only [List.append_nil] at hW'
  refine (walk n0 v1 l c W h7 (maxlen_of hsh) hl w0).mono fun e W' ⟨he, hb⟩ => ?_
  subst he
  refine ⟨_, rfl, _, _, _, [], [] ++ (p1 ++ ([] ++ [])), [], hW', trodAll_mk1 (shut_bool Tryz.underlying4 _), ?_, rfl, hb.frame _, fun h => by cases h⟩
  exact trodAll_mk3 (shut_int Tryz.underlying22 w0) (Below.trod (P := Tryz.prog) TS_k1 (by kernel_rfl) (of_decide_eq_true (by kernel_rfl)) h1 hb (fun x hx => hlt x (by simp [hx]))) (shut_bool Tryz.underlying4 _)

theorem TS_holds (walk : TS_walk) : Rows.TablesSpansSaid :=
  OpenClaim.holds_of_wide 13 Tryz.f13 rfl rfl rfl rfl rfl rfl rfl ⟨rfl, rfl, rfl, rfl, rfl⟩ rfl rfl rfl rfl rfl (by kernel_rfl) Tryz.func13 TS_closed
    (of_decide_eq_true (by kernel_rfl)) (by unfold Func.isWrapper; first | (rw [if_pos (by decide +kernel)]; kernel_rfl) | (rw [if_neg (by decide +kernel)]; exact ⟨rfl, rfl⟩))
    (fun os started H enc _ => TS_lifted walk os started H enc)
end Go.Proofs.YtgkfbembnlgahaaGreatDoor
