/- Part 10 of the proof of the statement that the last part names; it asks for no condition of its own. Here: PcCut. -/
import Derived.Test.YtgkfbembnlgahaaDoorQag
import Derived.Lib.QuoteLoop
import Derived.Lib.RuneCount
import Derived.Lib.TrimAscii
set_option linter.unusedVariables false
set_option linter.unusedSimpArgs false
set_option maxRecDepth 100000
namespace Go.Pc
open Go Go.Sx Go.Tx
theorem runLoop_to {V X ι : Type} {b : V → Option (V ⊕ X)} (I : ι → Prop) (st : ι → V) (μ : ι → Nat) (r : X)
    (h : ∀ i, I i → (∃ j, b (st i) = some (.inl (st j)) ∧ I j ∧ μ j < μ i) ∨ b (st i) = some (.inr r)) (i : ι) (hi : I i) : runLoop b (st i) = some r := by
  obtain ⟨x, h1, h2⟩ := runLoop_ind I st μ (fun x => x = r) (fun i hi => (h i hi).imp (fun h => h) (fun h => ⟨r, h, rfl⟩)) i hi
  rw [h1, h2]

theorem wrap_i64 (n : Int) (h1 : -9223372036854775808 ≤ n) (h2 : n ≤ 9223372036854775807) : IntKind.i64.wrap n = n := by
  rw [IntKind.wrap_i64]; omega

theorem decode_pos (s : ByteArray) (p : Nat) (hp : p < s.size) : 1 ≤ (Utf8.decode s p).2 ∧ p + (Utf8.decode s p).2 ≤ s.size := by
  refine ⟨Lib.decode_width_pos s p hp, ?_⟩
  rw [Lib.decode_at]
  have := Lib.decodeN_width_le (s.size - p) (s.get! p).toNat (s.get! (p + 1)).toNat (s.get! (p + 2)).toNat (s.get! (p + 3)).toNat (by omega)
  omega

@[simp] theorem beq_cast (a b : Nat) : ((a : Int) == (b : Int)) = (a == b) := by
  rw [Bool.eq_iff_iff, beq_iff_eq, beq_iff_eq]
  omega

theorem decode_low (s : ByteArray) (p : Nat) (b : UInt8) (hp : s.data.toList[p]? = some b) (hb : b.toNat < 128) : Utf8.decode s p = (b.toNat, 1) := by
  have hlt : p < s.data.size := by
    have := (List.getElem?_eq_some_iff.1 hp).1
    simpa using this
  have hg : s.get! (p + 0) = b := by
    show s.data[p + 0]! = b
    rw [Nat.add_zero]
    simp only [Array.getElem!_eq_getD, Array.getD_eq_getD_getElem?]
    rw [← Array.getElem?_toList, hp]
    rfl
  unfold Utf8.decode
  simp only [hg]
  rw [if_pos (by omega)]

def cutL (s : ByteArray) (m : Nat → Bool) : Nat → Nat → ByteArray
  | 0, _ => ByteArray.empty
  | f + 1, p => if p < s.size then if m (Utf8.decode s p).1 then cutL s m f (p + (Utf8.decode s p).2) else s.extract p s.size else ByteArray.empty

def inSet (B : ByteArray) (c : Nat) : Bool := B.data.toList.any (fun b => c == b.toNat)

def Low (B : ByteArray) : Prop := ∀ b ∈ B.data.toList, b.toNat < 128

def cutR (m : Nat → Bool) : Nat → ByteArray → ByteArray
  | 0, s => s
  | f + 1, s => if 0 < s.size then if m (Lib.decodeLastL s.data.toList).1 then cutR m f (s.extract 0 (s.size - (Lib.decodeLastL s.data.toList).2)) else s else s

def allIn (B s : ByteArray) : Bool := s.data.toList.all (fun b => B.data.toList.contains b)

theorem inSet_byte (B : ByteArray) (b : UInt8) : inSet B b.toNat = B.data.toList.contains b := by
  unfold inSet
  generalize B.data.toList = l
  induction l with
  | nil => rfl
  | cons x r ih =>
    rw [List.any_cons, ih, List.contains_cons]
    congr 1
    rw [Bool.eq_iff_iff, beq_iff_eq, beq_iff_eq]
    exact ⟨fun h => UInt8.toNat_inj.1 h, fun h => by rw [h]⟩

theorem inSet_low {B : ByteArray} (h : Low B) {c : Nat} (hc : inSet B c = true) : c < 128 := by
  unfold inSet at hc
  rw [List.any_eq_true] at hc
  obtain ⟨b, hb, he⟩ := hc
  have := h b hb
  simp only [beq_iff_eq] at he
  omega

theorem byte_at (s : ByteArray) (q : Nat) (hq : q < s.size) : s.data.toList[q]? = some (s[q]'hq) := by
  rw [Array.getElem?_toList]
  exact Array.getElem?_eq_getElem hq

theorem cutL_spec {B : ByteArray} (s : ByteArray) (h : Low B) : ∀ (f p : Nat), s.size - p < f → p ≤ s.size → (∀ b ∈ s.data.toList.take p, B.data.toList.contains b = true) →
    (cutL s (inSet B) f p = ByteArray.empty ∧ allIn B s = true) ∨ ∃ q, ∃ hq : q < s.size, cutL s (inSet B) f p = s.extract q s.size ∧ B.data.toList.contains (s[q]'hq) = false
  | 0, p, hf, _, _ => by omega
  | f + 1, p, hf, hp, hall => by
    simp only [cutL]
    have hsz : s.data.toList.length = s.size := Array.length_toList
    by_cases hlt : p < s.size
    · rw [if_pos hlt]
      by_cases hin : inSet B (Utf8.decode s p).1 = true
      · rw [if_pos hin]
        have hlow : (s[p]'hlt).toNat < 128 := by
          by_cases hb : (s[p]'hlt).toNat < 128
          · exact hb
          · have := (decode_high s p hlt (by omega)).1
            have := inSet_low h hin
            omega
        rw [decode_low s p _ (byte_at s p hlt) hlow] at hin ⊢
        rw [inSet_byte] at hin
        refine cutL_spec s h f (p + 1) (by omega) hlt (fun b hb => ?_)
        rw [List.take_add_one, List.mem_append] at hb
        rcases hb with hb | hb
        · exact hall b hb
        · rw [byte_at s p hlt] at hb
          simp only [Option.toList_some, List.mem_singleton] at hb
          rw [hb]; exact hin
      · rw [if_neg hin]
        refine .inr ⟨p, hlt, rfl, ?_⟩
        by_cases hb : (s[p]'hlt).toNat < 128
        · rw [decode_low s p _ (byte_at s p hlt) hb, inSet_byte] at hin
          simpa using hin
        · rw [← inSet_byte]
          cases hq : inSet B (s[p]'hlt).toNat with
          | false => rfl
          | true => exact absurd (inSet_low h hq) hb
    · rw [if_neg hlt]
      refine .inl ⟨rfl, ?_⟩
      unfold allIn
      rw [List.all_eq_true]
      intro b hb
      exact hall b (by rw [List.take_of_length_le (by omega)]; exact hb)

theorem decodeL_low (l : List UInt8) (hl : l ≠ []) (h : (Lib.decodeL l).1 < 128) : (Lib.decodeL l).2 = 1 ∧ (l.getD 0 0).toNat < 128 := by
  cases l with
  | nil => exact absurd rfl hl
  | cons b t =>
    by_cases hb : b.toNat < 128
    · exact ⟨by rw [Lib.decodeL_ascii b t hb], hb⟩
    · exfalso
      have hlt : 0 < (⟨(b :: t).toArray⟩ : ByteArray).size := by
        show 0 < (b :: t).toArray.size
        simp
      have := (decode_high ⟨(b :: t).toArray⟩ 0 hlt (by
        show 128 ≤ ((b :: t).toArray[0]).toNat
        simp
        omega)).1
      unfold Lib.decodeL at h
      omega

theorem decodeLast_low (l : List UInt8) (hl : l ≠ []) (h : (Lib.decodeLastL l).1 < 128) : Lib.decodeLastL l = ((l.getD (l.length - 1) 0).toNat, 1) := by
  unfold Lib.decodeLastL at h ⊢
  rw [if_neg hl] at h ⊢
  split at h
  · rename_i hb; rw [if_pos hb]
  · rename_i hb
    exfalso
    simp only at h
    split at h
    · rename_i hs
      have hlen : 0 < l.length := List.length_pos_iff.2 hl
      have hw := Lib.decodeLastL_width l hlen
      by_cases hd : l.drop (Lib.lastStart l) = []
      · rw [hd] at hs
        have h2 : (Lib.decodeL []).2 = 1 := by decide
        have h3 := List.drop_eq_nil_iff.1 hd
        omega
      · obtain ⟨h1, h2⟩ := decodeL_low _ hd h
        rw [h1] at hs
        rw [List.getD_eq_getElem?_getD, List.getElem?_drop] at h2
        rw [List.getD_eq_getElem?_getD] at hb
        have : Lib.lastStart l + 0 = l.length - 1 := by omega
        rw [this] at h2
        exact hb h2
    · simp [Utf8.runeError] at h

theorem cutR_spec {B : ByteArray} (h : Low B) : ∀ (f : Nat) (t : ByteArray) (ht : 0 < t.size), B.data.toList.contains (t[0]'ht) = false → 0 < (cutR (inSet B) f t).size
  | 0, t, ht, _ => ht
  | f + 1, t, ht, hc => by
    simp only [cutR]
    rw [if_pos ht]
    split
    · rename_i hin
      have hsz : t.data.toList.length = t.size := Array.length_toList
      have hne : t.data.toList ≠ [] := by intro e; rw [e] at hsz; simp at hsz; omega
      have hd := decodeLast_low t.data.toList hne (inSet_low h hin)
      rw [hd] at hin ⊢
      simp only at hin ⊢
      rw [inSet_byte, hsz] at hin
      have h1 : t.size ≠ 1 := by
        intro e
        rw [e] at hin
        rw [List.getD_eq_getElem?_getD, byte_at t 0 ht] at hin
        simp only [Option.getD_some] at hin
        rw [hin] at hc
        cases hc
      have hlt : 0 < (t.extract 0 (t.size - 1)).size := by rw [ByteArray.size_extract]; omega
      refine cutR_spec h f _ hlt ?_
      have e0 : (t.extract 0 (t.size - 1))[0]'hlt = t[0]'ht := by
        rw [ByteArray.getElem_extract]
      rw [e0]; exact hc
    · exact ht

theorem made_law (set s : ByteArray) (h : Low set) : (cutR (inSet set) (cutL s (inSet set) (s.size + 1) 0).size (cutL s (inSet set) (s.size + 1) 0)).toList.isEmpty = allIn set s := by
  rcases cutL_spec s h (s.size + 1) 0 (by omega) (by omega) (by simp) with ⟨h1, h2⟩ | ⟨q, hq, h1, h2⟩
  · rw [h1, h2, ByteArray.toList_eq]
    rfl
  · rw [h1]
    have hlt : 0 < (s.extract q s.size).size := by rw [ByteArray.size_extract]; omega
    have e0 : (s.extract q s.size)[0]'hlt = s[q]'hq := by
      rw [ByteArray.getElem_extract]
      congr 1
    have := cutR_spec h (s.extract q s.size).size _ hlt (by rw [e0]; exact h2)
    have hf : allIn set s = false := by
      unfold allIn
      rw [List.all_eq_false]
      exact ⟨s[q]'hq, List.mem_of_getElem? (byte_at s q hq), by simpa using h2⟩
    rw [hf, ByteArray.toList_eq]
    generalize cutR (inSet set) (s.extract q s.size).size (s.extract q s.size) = z at this
    cases hz : z.data.toList with
    | nil =>
      have : z.data.toList.length = z.size := Array.length_toList
      rw [hz] at this
      simp at this
      omega
    | cons x r => rfl


theorem cutLeft_in (s set : ByteArray) (h : Low set) (i : Int) (c : Nat) (p : Nat) : runLoop chart_cutLeft_b6 (s, set, i, (c : Int), false, s, p, set, 0) = some (s, set, i, inSet set c, s, p) := by
  have hsz : set.data.toList.length = set.size := Array.length_toList
  refine runLoop_to (fun q : Nat => q ≤ set.size) (fun q => (s, set, i, (c : Int), (set.data.toList.take q).any (fun b => c == b.toNat), s, p, set, q)) (fun q => set.size - q) _ ?_ 0 (Nat.zero_le _)
  intro q hq
  by_cases hlt : q < set.size
  · left
    obtain ⟨b, hb⟩ : ∃ b, set.data.toList[q]? = some b := ⟨_, List.getElem?_eq_getElem (by omega)⟩
    have hd := decode_low set q b hb (h b (List.mem_of_getElem? hb))
    refine ⟨q + 1, ?_, hlt, by omega⟩
    simp only [chart_cutLeft_b6, hd, decide_eq_true hlt, if_true]
    rw [List.take_add_one, hb, Option.toList_some, List.any_append]
    cases ha : (set.data.toList.take q).any (fun b => c == b.toNat) with
    | true => simp
    | false =>
      simp
      rw [Bool.eq_iff_iff, decide_eq_true_eq, beq_iff_eq]
      omega
  · right
    have : q = set.size := by omega
    subst this
    simp only [chart_cutLeft_b6, decide_eq_false hlt]
    rw [List.take_of_length_le (by omega)]
    rfl
theorem cutLeft_go (s set : ByteArray) (h : Low set) : ∀ (f p : Nat), p ≤ s.size → s.size - p < f → ((runLoop chart_cutLeft_b2 (s, set, s, p)).bind fun r0_0 =>
   match r0_0 with
   | .inl _ =>
    some (ByteArray.mk (List.toArray []))
   | .inr r2_0 =>
    some r2_0) = some (cutL s (inSet set) f p)
  | 0, p, _, hf => by omega
  | f + 1, p, hp, hf => by
    rw [runLoop_eq]
    by_cases hlt : p < s.size
    · have hd := decode_pos s p hlt
      simp only [chart_cutLeft_b2, decide_eq_true hlt, if_true, cutLeft_in s set h, Option.bind_some, cutL]
      cases hin : inSet set (Utf8.decode s p).1 with
      | true =>
        simp only [Bool.not_true, Bool.false_eq_true, if_false, if_true, Option.bind_some, if_pos hlt]
        exact cutLeft_go s set h f _ hd.2 (by omega)
      | false =>
        have h1 : (decide ((0 : Int) ≤ (p : Int)) && decide ((p : Int) ≤ (s.size : Int))) = true := by rw [Bool.and_eq_true, decide_eq_true_eq, decide_eq_true_eq]; omega
        simp only [Bool.not_false, if_true, h1, Option.bind_some, if_pos hlt, Bool.false_eq_true, if_false, Int.toNat_natCast]
    · simp only [chart_cutLeft_b2, decide_eq_false hlt, Bool.false_eq_true, if_false, Option.bind_some, cutL, if_neg hlt]
      rfl
theorem cutLeft_is (s set : ByteArray) (h : Low set) : chart_cutLeft s set = some (cutL s (inSet set) (s.size + 1) 0) := by
  unfold chart_cutLeft
  exact cutLeft_go s set h _ 0 (Nat.zero_le _) (by omega)

theorem cutRight_in (s set : ByteArray) (h : Low set) (c : Nat) (n : Int) : runLoop chart_cutRight_b5 (s, set, (c : Int), n, false, set, 0) = some (s, set, n, inSet set c) := by
  have hsz : set.data.toList.length = set.size := Array.length_toList
  refine runLoop_to (fun q : Nat => q ≤ set.size) (fun q => (s, set, (c : Int), n, (set.data.toList.take q).any (fun b => c == b.toNat), set, q)) (fun q => set.size - q) _ ?_ 0 (Nat.zero_le _)
  intro q hq
  by_cases hlt : q < set.size
  · left
    obtain ⟨b, hb⟩ : ∃ b, set.data.toList[q]? = some b := ⟨_, List.getElem?_eq_getElem (by omega)⟩
    have hd := decode_low set q b hb (h b (List.mem_of_getElem? hb))
    refine ⟨q + 1, ?_, hlt, by omega⟩
    simp only [chart_cutRight_b5, hd, decide_eq_true hlt, if_true]
    rw [List.take_add_one, hb, Option.toList_some, List.any_append]
    cases ha : (set.data.toList.take q).any (fun b => c == b.toNat) with
    | true => simp
    | false =>
      simp
      rw [Bool.eq_iff_iff, decide_eq_true_eq, beq_iff_eq]
      omega
  · right
    have : q = set.size := by omega
    subst this
    simp only [chart_cutRight_b5, decide_eq_false hlt]
    rw [List.take_of_length_le (by omega)]
    rfl
theorem cutRight_go (set : ByteArray) (h : Low set) : ∀ (f : Nat) (s : ByteArray), s.size ≤ f → s.size ≤ 9223372036854775807 → ((runLoop chart_cutRight_b1 (s, set)).bind fun r0_0 =>
   match r0_0 with
   | .inl r1_0 =>
    some r1_0
   | .inr r2_0 =>
    some r2_0) = some (cutR (inSet set) f s) := by
  intro f
  induction f with
  | zero =>
    intro s hf hs
    rw [runLoop_eq]
    have h0 : decide ((s.size : Int) > 0) = false := decide_eq_false (by omega)
    simp only [chart_cutRight_b1, h0, Bool.false_eq_true, if_false, Option.bind_some, cutR]
  | succ f ih =>
    intro s hf hs
    rw [runLoop_eq]
    by_cases hlt : 0 < s.size
    · have h0 : decide ((s.size : Int) > 0) = true := decide_eq_true (by omega)
      have hw := Lib.decodeLastL_width s.data.toList (by rw [Array.length_toList]; exact hlt)
      have hsl : s.data.toList.length = s.size := Array.length_toList
      rw [hsl] at hw
      simp only [chart_cutRight_b1, h0, if_true, utf8_DecodeLastRuneInString, if_pos hs, Option.bind_some, cutRight_in s set h, cutR, if_pos hlt]
      cases hin : inSet set (Lib.decodeLastL s.data.toList).1 with
      | false => simp only [Bool.not_false, if_true, Option.bind_some, Bool.false_eq_true, if_false]
      | true =>
        have hwr : IntKind.i64.wrap ((s.size : Int) - (Lib.decodeLastL s.data.toList).2) = ((s.size - (Lib.decodeLastL s.data.toList).2 : Nat) : Int) := by rw [wrap_i64] <;> omega
        have h1 : (decide ((0 : Int) ≤ ((s.size - (Lib.decodeLastL s.data.toList).2 : Nat) : Int)) && decide (((s.size - (Lib.decodeLastL s.data.toList).2 : Nat) : Int) ≤ (s.size : Int))) = true := by rw [Bool.and_eq_true, decide_eq_true_eq, decide_eq_true_eq]; omega
        simp only [Bool.not_true, Bool.false_eq_true, if_false, hwr, h1, if_true, Option.bind_some, Int.toNat_natCast]
        exact ih _ (by rw [ByteArray.size_extract]; omega) (by rw [ByteArray.size_extract]; omega)
    · have h0 : decide ((s.size : Int) > 0) = false := decide_eq_false (by omega)
      simp only [chart_cutRight_b1, h0, Bool.false_eq_true, if_false, Option.bind_some, cutR, if_neg hlt]
theorem cutRight_is (s set : ByteArray) (h : Low set) (hs : s.size ≤ 9223372036854775807) : chart_cutRight s set = some (cutR (inSet set) s.size s) := by
  unfold chart_cutRight
  exact cutRight_go set h _ s (Nat.le_refl _) hs

theorem made_is (s set : ByteArray) (l m : Int) (h : Low set) (hs : s.size ≤ 9223372036854775807) : chart_made s set l m = some (decide (l ≤ s.size) && decide (s.size ≤ m) && allIn set s) := by
  have hc : (cutL s (inSet set) (s.size + 1) 0).size ≤ s.size := by
    rcases cutL_spec s h (s.size + 1) 0 (by omega) (by omega) (by simp) with ⟨h1, _⟩ | ⟨q, hq, h1, _⟩
    · rw [h1]; exact Nat.zero_le _
    · rw [h1, ByteArray.size_extract]; omega
  unfold chart_made
  rw [cutLeft_is s set h]
  simp only [Option.bind_some]
  rw [cutRight_is _ set h (by omega)]
  simp only [Option.bind_some]
  have he : List.beq (cutR (inSet set) (cutL s (inSet set) (s.size + 1) 0).size (cutL s (inSet set) (s.size + 1) 0)).toList (ByteArray.mk (List.toArray [])).toList = allIn set s := by
    rw [← made_law set s h]
    have : (ByteArray.mk (List.toArray [])).toList = [] := by rw [ByteArray.toList_eq]
    rw [this]
    cases (cutR (inSet set) (cutL s (inSet set) (s.size + 1) 0).size (cutL s (inSet set) (s.size + 1) 0)).toList <;> rfl
  rw [he]
  by_cases h1 : l ≤ (s.size : Int)
  · by_cases h2 : (s.size : Int) ≤ m
    · simp [h1, h2]
    · simp [h1, h2]
  · simp [h1]
end Go.Pc
