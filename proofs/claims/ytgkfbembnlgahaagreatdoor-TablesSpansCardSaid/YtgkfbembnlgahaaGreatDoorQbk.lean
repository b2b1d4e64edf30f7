/- Part 37 of the proof of the statement that the last part names; it asks for no condition of its own. Here: PcSp4. -/
import Derived.Test.YtgkfbembnlgahaaGreatDoorQbj
set_option linter.unusedVariables false
set_option linter.unusedSimpArgs false
set_option maxRecDepth 100000
set_option maxHeartbeats 0
namespace Go.Pc
open Go Go.Sx Go.Tx
theorem decL_pts : (decL.all fun d => decide (0 ≤ d.1) && decide (d.1 ≤ 1114111)) = true := by kernel_rfl
theorem decL_inv : DInv decL := fun d hd => by
  have h := List.all_eq_true.1 decL_pts d hd
  rw [Bool.and_eq_true, decide_eq_true_eq, decide_eq_true_eq] at h
  unfold Top
  omega
theorem rise_uniq {D : List Dc} (h : Rise D) {a b : Dc} (ha : a ∈ D) (hb : b ∈ D) (he : a.1 = b.1) : a = b := by
  unfold Rise at h
  induction D with
  | nil => cases ha
  | cons x l ih =>
    have hp := List.pairwise_cons.1 h
    rcases List.mem_cons.1 ha with e1 | ha'
    · rcases List.mem_cons.1 hb with e2 | hb'
      · rw [e1, e2]
      · have := hp.1 b hb'
        rw [e1] at he
        omega
    · rcases List.mem_cons.1 hb with e2 | hb'
      · have := hp.1 a ha'
        rw [e2] at he
        omega
      · exact ih hp.2 ha' hb'
theorem spD_in {D : List Dc} (hR : Rise D) (hD : DInv D) (p : Int) (hp : p ≤ Top) : inB (mrg (spD D)) p = (match D.findIdx? (hit p true) with
    | some k => (D.getD k zD).2.2.1
    | none => false) := by
  refine inB_congr ?_
  rw [mrg_in (spD_ok hD) p hp]
  have key : ∀ d ∈ D, d.1 = p → ∃ k, D.findIdx? (hit p true) = some k ∧ D.getD k zD = d := fun d hd he => by
    have hh : hit p true d = true := by unfold hit; simp [he]
    have hf := find_of_idx (hit p true) zD D
    cases hi : D.findIdx? (hit p true) with
    | none =>
      rw [hi] at hf
      exact absurd hh (by simpa using List.find?_eq_none.1 hf d hd)
    | some k =>
      rw [hi] at hf
      have hf' : D.find? (hit p true) = some (D.getD k zD) := hf
      have h2 := List.find?_some hf'
      unfold hit at h2
      rw [Bool.and_eq_true, beq_iff_eq] at h2
      exact ⟨k, rfl, rise_uniq hR (List.mem_of_find?_eq_some hf') hd (by rw [h2.1, he])⟩
  constructor
  · rintro ⟨s, hs, h1⟩
    unfold spD at hs
    obtain ⟨d, hd, rfl⟩ := List.mem_map.1 hs
    obtain ⟨hd, hq⟩ := List.mem_filter.1 hd
    have he : d.1 = p := by
      have h2 : d.1 ≤ p ∧ p ≤ d.1 := h1
      omega
    obtain ⟨k, e1, e2⟩ := key d hd he
    rw [e1]
    simp only
    rw [e2]
    exact hq
  · intro hq
    cases hi : D.findIdx? (hit p true) with
    | none => rw [hi] at hq; cases hq
    | some k =>
      rw [hi] at hq
      have hf := find_of_idx (hit p true) zD D
      rw [hi] at hf
      have hf' : D.find? (hit p true) = some (D.getD k zD) := hf
      have h2 := List.find?_some hf'
      unfold hit at h2
      rw [Bool.and_eq_true, beq_iff_eq] at h2
      refine ⟨((D.getD k zD).1, (D.getD k zD).1), List.mem_map.2 ⟨_, List.mem_filter.2 ⟨List.mem_of_find?_eq_some hf', hq⟩, rfl⟩, ?_⟩
      simp only
      omega
structure Good (p : Int) (x : List Sp × Bool) : Prop where
  is : inB x.1 p = x.2
  mf : MF x.1
  ok : ∀ s ∈ x.1, okS s
  len : x.1.length ≤ 10000
theorem good_mrg {p : Int} {l : List Sp} {b : Bool} (h : ∀ s ∈ l, okS s) (hl : l.length ≤ 10000) (hb : inB (mrg l) p = b) : Good p (mrg l, b) :=
  ⟨hb, mrg_MF h, fun s hs => (mrg_ok h s hs).1, by have := mrg_len l; simp only; omega⟩
theorem spR_len (l : List Rg) (q : Rg → Bool) : (spR l q).length ≤ l.length := by
  unfold spR
  rw [List.length_map]
  exact filt_len l q
theorem good_R {p : Int} (hp : p ≤ Top) (q : Rg → Bool) {b : Bool} (hb : (match theR.find? (hasR p) with
    | some r => q r
    | none => false) = b) : Good p (mrg (spR theR q), b) :=
  good_mrg (spR_ok theR_inv q) (by have := spR_len theR q; have := theR_len; omega) ((spR_in theR_inv q p hp).trans hb)
theorem good_S {p : Int} (hp : p ≤ Top) (one : ByteArray) : Good p (mrg (spN theS one), theS.any (fun r => nmOf one r && hasN p r)) :=
  good_mrg (spN_ok theS_inv one) (by unfold spN; rw [List.length_map]; have := filt_len theS (nmOf one); have := theS_len; omega) (spN_in theS_inv one p hp)
theorem good_D {p : Int} (hp : p ≤ Top) {b : Bool} (hb : (match decL.findIdx? (hit p true) with
    | some k => (decL.getD k zD).2.2.1
    | none => false) = b) : Good p (mrg (spD decL), b) :=
  good_mrg (spD_ok decL_inv) (by unfold spD; rw [List.length_map]; have := filt_len decL (fun d => d.2.2.1); rw [decL_len] at this; omega) ((spD_in decL_rise decL_inv p hp).trans hb)
end Go.Pc
