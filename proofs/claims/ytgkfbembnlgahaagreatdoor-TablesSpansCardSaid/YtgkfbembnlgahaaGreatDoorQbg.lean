/- Part 33 of the proof of the statement that the last part names; it asks for no condition of its own. Here: PcSpl, PcRef, PcRef2, PcRef3, PcRef5. -/
import Derived.Test.YtgkfbembnlgahaaGreatDoorQbd
import Derived.Test.YtgkfbembnlgahaaGreatDoorQao
import Derived.Test.YtgkfbembnlgahaaGreatDoorQbf
set_option linter.unusedVariables false
set_option linter.unusedSimpArgs false
set_option maxRecDepth 100000
namespace Go.Pc
open Go Go.Sx Go.Tx
theorem spl_snoc_eq (c : UInt8) : ∀ l : List UInt8, spl c (l ++ [c]) = spl c l ++ [[]]
  | [] => by simp [spl]
  | x :: r => by
    have ih := spl_snoc_eq c r
    rw [List.cons_append]
    by_cases h : x = c
    · rw [spl, if_pos h, ih, spl, if_pos h, List.cons_append]
    · rw [spl, if_neg h, ih, spl, if_neg h]
      have := spl_ne c r
      cases hq : spl c r with
      | nil => exact absurd hq this
      | cons w ws => rfl
theorem spl_snoc_ne (c b : UInt8) (hb : b ≠ c) : ∀ l : List UInt8, spl c (l ++ [b]) = (spl c l).set ((spl c l).length - 1) ((spl c l).getD ((spl c l).length - 1) [] ++ [b])
  | [] => by simp [spl, hb]
  | x :: r => by
    have ih := spl_snoc_ne c b hb r
    have hne := spl_ne c r
    rw [List.cons_append]
    by_cases h : x = c
    · rw [spl, if_pos h, ih, spl, if_pos h]
      cases hq : spl c r with
      | nil => exact absurd hq hne
      | cons w ws => simp [List.getD]
    · rw [spl, if_neg h, ih, spl, if_neg h]
      cases hq : spl c r with
      | nil => exact absurd hq hne
      | cons w ws =>
        cases ws with
        | nil => simp
        | cons v vs => simp [List.getD]
def mkB (l : List UInt8) : ByteArray := ⟨l.toArray⟩
theorem spB_mk (c : UInt8) (s : ByteArray) : spB c s = (spl c s.data.toList).map mkB := rfl
theorem mkB_app (s : ByteArray) (w : List UInt8) (i : Nat) (b : UInt8) (h : s.data.toList[i]? = some b) : mkB w ++ s.extract i (i + 1) = mkB (w ++ [b]) := by
  rw [ByteArray.ext_iff]
  apply Array.toList_inj.1
  have hd : ((s.extract i (i + 1)).data).toList = [b] := by
    rw [ByteArray.data_extract, Array.toList_extract, List.extract_eq_take_drop]
    have hi : i < s.data.toList.length := (List.getElem?_eq_some_iff.1 h).1
    rw [List.drop_eq_getElem_cons hi]
    have : s.data.toList[i] = b := (List.getElem?_eq_some_iff.1 h).2
    rw [this]
    simp
  rw [ByteArray.data_append, Array.toList_append, hd]
  simp [mkB]
end Go.Pc

namespace Go.Pc
open Go Go.Sx Go.Tx
theorem getD_at (L : List UInt8) (i : Nat) (b : UInt8) (h : L[i]? = some b) : L.getD i 0 = b := by
  rw [List.getD_eq_getElem?_getD, h]; rfl
theorem u8_eq_iff (b c : UInt8) : ((b.toNat : Int) = (c.toNat : Int)) ↔ b = c :=
  ⟨fun h => UInt8.toNat_inj.1 (by omega), fun h => by rw [h]⟩

theorem rsplit_loop (c : UInt8) (s : ByteArray) (hs : s.size ≤ 1000001) : runLoop ref07_Split_b3 (s, (c.toNat : Int), 0, [ByteArray.mk (List.toArray [])]) = some (spB c s) := by
  have hsz : s.data.toList.length = s.size := Array.length_toList
  refine runLoop_to (fun i : Nat => i ≤ s.size) (fun i : Nat => (s, (c.toNat : Int), (i : Int), (spl c (s.data.toList.take i)).map mkB)) (fun i => s.size - i) _ ?_ 0 (Nat.zero_le _)
  intro i hi
  by_cases hlt : i < s.size
  · left
    refine ⟨i + 1, ?_, hlt, by omega⟩
    obtain ⟨b, hb⟩ : ∃ b, s.data.toList[i]? = some b := ⟨_, List.getElem?_eq_getElem (by omega)⟩
    have d0 : decide ((i : Int) < (s.size : Int)) = true := decide_eq_true (by omega)
    have d1 : decide ((0 : Int) ≤ (i : Int)) = true := decide_eq_true (by omega)
    have hg := getD_at _ i b hb
    have hw : IntKind.i64.wrap ((i : Int) + 1) = ((i + 1 : Nat) : Int) := by rw [wrap_i64] <;> omega
    have ht : s.data.toList.take (i + 1) = s.data.toList.take i ++ [b] := by rw [List.take_add_one, hb]; rfl
    have hlen := spl_len c (s.data.toList.take i)
    have htl : (s.data.toList.take i).length ≤ i := by rw [List.length_take]; omega
    have hne : 0 < (spl c (s.data.toList.take i)).length := List.length_pos_iff.2 (spl_ne c _)
    have hml : ((spl c (s.data.toList.take i)).map mkB).length = (spl c (s.data.toList.take i)).length := List.length_map _
    have hwords := spl_word c (s.data.toList.take i)
    by_cases he : b = c
    · have e0 : decide ((b.toNat : Int) = (c.toNat : Int)) = true := decide_eq_true ((u8_eq_iff b c).2 he)
      have e1 : decide ((((spl c (s.data.toList.take i)).map mkB).length + 1) * 16 ≤ 140737488355328) = true := decide_eq_true (by rw [hml]; omega)
      simp only [ref07_Split_b3, d0, d1, Bool.and_self, if_true, Int.toNat_natCast, hg, e0, e1, hw, ht]
      subst he
      rw [spl_snoc_eq, List.map_append]
      rfl
    · have e0 : decide ((b.toNat : Int) = (c.toNat : Int)) = false := decide_eq_false (fun h => he ((u8_eq_iff b c).1 h))
      have hst := spl_snoc_ne c b he (s.data.toList.take i)
      generalize hS : spl c (s.data.toList.take i) = S at *
      obtain ⟨k, hk⟩ : ∃ k, S.length = k + 1 := ⟨S.length - 1, by omega⟩
      have hk1 : S.length - 1 = k := by omega
      rw [hk1] at hst
      have hwl : IntKind.i64.wrap ((((S.map mkB).length : Nat) : Int) - 1) = (k : Int) := by rw [hml, hk, wrap_i64] <;> omega
      have e1 : decide ((0 : Int) ≤ (k : Int)) = true := decide_eq_true (by omega)
      have e2 : decide ((k : Int) < (((S.map mkB).length : Nat) : Int)) = true := decide_eq_true (by rw [hml]; omega)
      have e3 : decide (k < (S.map mkB).length) = true := decide_eq_true (by rw [hml]; omega)
      have e4 : decide ((i : Int) ≤ ((i + 1 : Nat) : Int)) = true := decide_eq_true (by omega)
      have e5 : decide (((i + 1 : Nat) : Int) ≤ (s.size : Int)) = true := decide_eq_true (by omega)
      have hgd : (S.map mkB).getD k ByteArray.empty = mkB (S.getD k []) := by
        rw [List.getD_eq_getElem?_getD, List.getElem?_map, List.getD_eq_getElem?_getD, List.getElem?_eq_getElem (by omega)]
        rfl
      have hmem : S.getD k [] ∈ S := by
        rw [List.getD_eq_getElem?_getD, List.getElem?_eq_getElem (by omega)]
        exact List.getElem_mem _
      have hsw := hwords _ hmem
      have hms : (mkB (S.getD k [])).size = (S.getD k []).length := by show (S.getD k []).toArray.size = _; rw [List.size_toArray]
      have hes : (s.extract i (i + 1)).size ≤ 1 := by rw [ByteArray.size_extract]; omega
      have e6 : decide ((mkB (S.getD k [])).size + (s.extract i (i + 1)).size ≤ 9223372036854775807) = true := decide_eq_true (by rw [hms]; omega)
      simp only [ref07_Split_b3, d0, d1, Bool.and_self, if_true, Int.toNat_natCast, hg, e0, Bool.false_eq_true, if_false, hwl, e1, e2, e3, hw, e4, e5, hgd, e6, ht, hst]
      rw [List.map_set, ← mkB_app s _ i b hb]
      rfl
  · right
    have : i = s.size := by omega
    subst this
    have d0 : decide ((s.size : Int) < (s.size : Int)) = false := decide_eq_false (by omega)
    simp only [ref07_Split_b3, d0, Bool.false_eq_true, if_false]
    rw [← hsz, List.take_length, spB_mk]
theorem rsplit_is (c : UInt8) (s : ByteArray) (hs : s.size ≤ 1000001) : ref07_Split s (c.toNat : Int) = some (spB c s) := by
  unfold ref07_Split
  rw [rsplit_loop c s hs]; rfl

theorem rlines_is (s : ByteArray) (hs : s.size ≤ 1000000) : ref07_Lines s = some (linesOf s) := by
  unfold ref07_Lines linesOf
  rw [beq_nil]
  by_cases h0 : s.size = 0
  · simp [h0]
  · rw [if_neg (by simpa using h0), if_neg h0, show (10 : Int) = ((10 : UInt8).toNat : Int) from rfl, rsplit_is 10 s (by omega)]
    simp only [Option.bind_some]
    have hL : (spB 10 s).length ≤ 1000001 := by have := spB_len 10 s; omega
    have hW : ∀ w ∈ spB 10 s, w.size ≤ 1000000 := fun w h => by have := spB_word 10 s w h; omega
    generalize spB 10 s = L at *
    have key : runLoop ref07_Lines_b6 ((0 : Int), L, []) = some (L.map (spB 32)) := by
      refine runLoop_to (fun i : Nat => i ≤ L.length) (fun i : Nat => ((i : Int), L, (L.take i).map (spB 32))) (fun i => L.length - i) _ ?_ 0 (Nat.zero_le _)
      intro i hi
      by_cases hlt : i < L.length
      · left
        refine ⟨i + 1, ?_, hlt, by omega⟩
        have d0 : decide ((i : Int) < (L.length : Int)) = true := decide_eq_true (by omega)
        have d1 : decide ((0 : Int) ≤ (i : Int)) = true := decide_eq_true (by omega)
        have d2 : decide (i < L.length) = true := decide_eq_true hlt
        have hg : L.getD i ByteArray.empty = L[i] := by rw [List.getD_eq_getElem?_getD, List.getElem?_eq_getElem hlt]; rfl
        have hw : IntKind.i64.wrap ((i : Int) + 1) = ((i + 1 : Nat) : Int) := by rw [wrap_i64] <;> omega
        have hsp := rsplit_is 32 L[i] (by have := hW _ (List.getElem_mem hlt); omega)
        rw [show ((32 : UInt8).toNat : Int) = (32 : Int) from rfl] at hsp
        have hml : ((L.take i).map (spB 32)).length = i := by rw [List.length_map, List.length_take]; omega
        have e1 : decide ((((L.take i).map (spB 32)).length + [spB 32 L[i]].length) * 24 ≤ 140737488355328) = true := decide_eq_true (by rw [hml]; simp; omega)
        simp only [ref07_Lines_b6, d0, d1, d2, Bool.and_self, if_true, Int.toNat_natCast, hg, hsp, Option.bind_some, e1, hw]
        rw [List.take_add_one, List.getElem?_eq_getElem hlt, List.map_append]
        rfl
      · right
        have : i = L.length := by omega
        subst this
        have d0 : decide ((L.length : Int) < (L.length : Int)) = false := decide_eq_false (by omega)
        simp only [ref07_Lines_b6, d0, Bool.false_eq_true, if_false, List.take_length]
    rw [key]
    rfl

def rngB (f t : Nat) (b : UInt8) : Bool := decide (f ≤ b.toNat) && decide (b.toNat ≤ t)
theorem rng_contains (L : List UInt8) (f t : Nat) (h : (List.range 256).all (fun n => L.contains (UInt8.ofNat n) == (decide (f ≤ n) && decide (n ≤ t))) = true) (b : UInt8) : L.contains b = rngB f t b := by
  have := List.all_eq_true.1 h b.toNat (List.mem_range.2 (by have := b.toNat_lt; omega))
  rw [UInt8.ofNat_toNat] at this
  exact beq_iff_eq.1 this
def hexB (b : UInt8) : Bool := rngB 48 57 b || rngB 65 70 b
theorem hex_contains (b : UInt8) : digitsB.data.toList.contains b = hexB b := by
  have h : (List.range 256).all (fun n => digitsB.data.toList.contains (UInt8.ofNat n) == ((decide (48 ≤ n) && decide (n ≤ 57)) || (decide (65 ≤ n) && decide (n ≤ 70)))) = true := by decide +kernel
  have := List.all_eq_true.1 h b.toNat (List.mem_range.2 (by have := b.toNat_lt; omega))
  rw [UInt8.ofNat_toNat] at this
  exact beq_iff_eq.1 this
theorem allIn_hex (s : ByteArray) : allIn digitsB s = s.data.toList.all hexB := by
  unfold allIn
  congr 1
  funext b
  exact hex_contains b
theorem allIn_rng (B s : ByteArray) (f t : Nat) (h : (List.range 256).all (fun n => B.data.toList.contains (UInt8.ofNat n) == (decide (f ≤ n) && decide (n ≤ t))) = true) : allIn B s = s.data.toList.all (rngB f t) := by
  unfold allIn
  congr 1
  funext b
  exact rng_contains _ f t h b
theorem hexD_iff (b : UInt8) : hexB b = true ↔ hexD b := by
  unfold hexB rngB hexD
  simp

theorem rdigit_is (b : UInt8) : ref07_digit (b.toNat : Int) = some (if hexB b then (hexV b : Int) else -1) := by
  have hb := b.toNat_lt
  unfold ref07_digit
  by_cases h : hexB b = true
  · rw [if_pos h]
    rcases (hexD_iff b).1 h with ⟨h1, h2⟩ | ⟨h1, h2⟩
    · have hv : hexV b = b.toNat - 48 := by unfold hexV; rw [if_pos h2]
      have c1 : decide ((b.toNat : Int) ≥ 48) = true := decide_eq_true (by omega)
      have c2 : decide ((b.toNat : Int) ≤ 57) = true := decide_eq_true (by omega)
      have w5 : IntKind.u8.wrap ((b.toNat : Int) - 48) = ((b.toNat - 48 : Nat) : Int) := by rw [IntKind.wrap_u8]; omega
      have w6 : IntKind.i64.wrap ((b.toNat - 48 : Nat) : Int) = ((b.toNat - 48 : Nat) : Int) := by rw [wrap_i64] <;> omega
      simp only [c1, c2, if_true, w5, w6, hv]
    · have hv : hexV b = b.toNat - 55 := by unfold hexV; rw [if_neg (by omega)]
      have c1 : decide ((b.toNat : Int) ≥ 48) = true := decide_eq_true (by omega)
      have c2 : decide ((b.toNat : Int) ≤ 57) = false := decide_eq_false (by omega)
      have c3 : decide ((b.toNat : Int) ≥ 65) = true := decide_eq_true (by omega)
      have c4 : decide ((b.toNat : Int) ≤ 70) = true := decide_eq_true (by omega)
      have w5 : IntKind.u8.wrap ((b.toNat : Int) - 65) = ((b.toNat - 65 : Nat) : Int) := by rw [IntKind.wrap_u8]; omega
      have w6 : IntKind.i64.wrap ((b.toNat - 65 : Nat) : Int) = ((b.toNat - 65 : Nat) : Int) := by rw [wrap_i64] <;> omega
      have w7 : IntKind.i64.wrap (((b.toNat - 65 : Nat) : Int) + 10) = ((b.toNat - 55 : Nat) : Int) := by rw [wrap_i64] <;> omega
      simp only [c1, c2, c3, c4, if_true, Bool.false_eq_true, if_false, w5, w6, w7, hv]
  · rw [if_neg h]
    have hn : ¬ hexD b := fun e => h ((hexD_iff b).2 e)
    unfold hexD at hn
    by_cases h1 : 48 ≤ b.toNat
    · have c1 : decide ((b.toNat : Int) ≥ 48) = true := decide_eq_true (by omega)
      have c2 : decide ((b.toNat : Int) ≤ 57) = false := decide_eq_false (by omega)
      by_cases h2 : 65 ≤ b.toNat
      · have c3 : decide ((b.toNat : Int) ≥ 65) = true := decide_eq_true (by omega)
        have c4 : decide ((b.toNat : Int) ≤ 70) = false := decide_eq_false (by omega)
        simp only [c1, c2, c3, c4, if_true, Bool.false_eq_true, if_false]
      · have c3 : decide ((b.toNat : Int) ≥ 65) = false := decide_eq_false (by omega)
        simp only [c1, c2, c3, if_true, Bool.false_eq_true, if_false]
    · have c1 : decide ((b.toNat : Int) ≥ 48) = false := decide_eq_false (by omega)
      have c3 : decide ((b.toNat : Int) ≥ 65) = false := decide_eq_false (by omega)
      simp only [c1, c3, Bool.false_eq_true, if_false]

theorem rpoint_loop (s : ByteArray) (h6 : s.size ≤ 6) : runLoop ref07_Point_b5 (s, 0, 0) = some (if s.data.toList.all hexB then .inl (hexN s.data.toList : Int) else .inr (-1)) := by
  have hsz : s.data.toList.length = s.size := Array.length_toList
  refine runLoop_to (fun i : Nat => i ≤ s.size ∧ (s.data.toList.take i).all hexB = true) (fun i : Nat => (s, ((hexN (s.data.toList.take i) : Nat) : Int), (i : Int))) (fun i => s.size - i) _ ?_ 0 ⟨Nat.zero_le _, rfl⟩
  intro i ⟨hi, ha⟩
  by_cases hlt : i < s.size
  · obtain ⟨b, hb⟩ : ∃ b, s.data.toList[i]? = some b := ⟨_, List.getElem?_eq_getElem (by omega)⟩
    have d0 : decide ((i : Int) < (s.size : Int)) = true := decide_eq_true (by omega)
    have d1 : decide ((0 : Int) ≤ (i : Int)) = true := decide_eq_true (by omega)
    have hg := getD_at _ i b hb
    have hd := rdigit_is b
    by_cases hx : hexB b = true
    · left
      rw [if_pos hx] at hd
      have ht : s.data.toList.take (i + 1) = s.data.toList.take i ++ [b] := by rw [List.take_add_one, hb]; rfl
      refine ⟨i + 1, ?_, ⟨hlt, by rw [ht, List.all_append, ha]; simp [hx]⟩, by omega⟩
      have hn : hexN (s.data.toList.take i) ≤ 1048575 := by
        have := hexN_lt (s.data.toList.take i) (fun b hb => (hexD_iff b).1 (List.all_eq_true.1 ha b hb))
        have hl : (s.data.toList.take i).length ≤ 5 := by rw [List.length_take]; omega
        have : 16 ^ (s.data.toList.take i).length ≤ 16 ^ 5 := Nat.pow_le_pow_right (by omega) hl
        omega
      have hst : hexN (s.data.toList.take (i + 1)) = hexN (s.data.toList.take i) * 16 + hexV b := by rw [ht]; simp [hexN]
      have hv := hexV_lt ((hexD_iff b).1 hx)
      rw [hst]
      generalize hexN (s.data.toList.take i) = n at *
      generalize hexV b = v at *
      have w3 : IntKind.i64.wrap ((n : Int) * 16) = n * 16 := by rw [wrap_i64] <;> omega
      have w4 : IntKind.i64.wrap ((i : Int) + 1) = ((i + 1 : Nat) : Int) := by rw [wrap_i64] <;> omega
      have w7 : IntKind.i64.wrap ((n : Int) * 16 + (v : Int)) = ((n * 16 + v : Nat) : Int) := by rw [wrap_i64] <;> omega
      have c1 : decide ((v : Int) < 0) = false := decide_eq_false (by omega)
      simp only [ref07_Point_b5, d0, d1, Bool.and_self, if_true, Int.toNat_natCast, hg, hd, Option.bind_some, c1, Bool.false_eq_true, if_false, w3, w4, w7]
    · right
      rw [if_neg hx] at hd
      have hall : s.data.toList.all hexB = false := by
        cases e : s.data.toList.all hexB with
        | false => rfl
        | true => exact absurd (List.all_eq_true.1 e b (List.mem_of_getElem? hb)) hx
      have c1 : decide ((-1 : Int) < 0) = true := rfl
      simp only [ref07_Point_b5, d0, d1, Bool.and_self, if_true, Int.toNat_natCast, hg, hd, Option.bind_some, c1, hall, Bool.false_eq_true, if_false]
  · right
    have : i = s.size := by omega
    subst this
    have d0 : decide ((s.size : Int) < (s.size : Int)) = false := decide_eq_false (by omega)
    rw [← hsz, List.take_length] at ha
    rw [if_pos ha]
    simp only [ref07_Point_b5, d0, Bool.false_eq_true, if_false]
    rw [← hsz, List.take_length]

theorem rpoint_is (s : ByteArray) : ref07_Point s = some (if ptOK s then (ptN s : Int) else -1) := by
  have hsz : s.data.toList.length = s.size := Array.length_toList
  unfold ref07_Point
  by_cases h4 : s.size < 4
  · have c : decide ((s.size : Int) < 4) = true := decide_eq_true (by omega)
    have hp : ptOK s = false := by unfold ptOK isPt; rw [decide_eq_false (by omega : ¬ 4 ≤ s.size)]; rfl
    simp only [c, if_true, hp, Bool.false_eq_true, if_false]
  · have c : decide ((s.size : Int) < 4) = false := decide_eq_false (by omega)
    by_cases h6 : s.size > 6
    · have c2 : decide ((s.size : Int) > 6) = true := decide_eq_true (by omega)
      have hp : ptOK s = false := by unfold ptOK isPt; rw [decide_eq_false (by omega : ¬ s.size ≤ 6)]; simp
      simp only [c, c2, if_true, hp, Bool.false_eq_true, if_false]
    · have c2 : decide ((s.size : Int) > 6) = false := decide_eq_false (by omega)
      have e4 : decide (4 ≤ s.size) = true := decide_eq_true (by omega)
      have e6 : decide (s.size ≤ 6) = true := decide_eq_true (by omega)
      have hloop := rpoint_loop s (by omega)
      have fin : isPt s = s.data.toList.all hexB → ((runLoop ref07_Point_b5 (s, (0 : Int), (0 : Int))).bind fun r3_0 =>
          match r3_0 with
          | .inl r4_0 => if (decide (r4_0 > (1114111 : Int))) = true then some (-1 : Int) else some r4_0
          | .inr r5_0 => some r5_0) = some (if ptOK s then (ptN s : Int) else -1) := by
        intro hI
        rw [hloop]
        simp only [Option.bind_some]
        cases ha : s.data.toList.all hexB
        · simp [ptOK, hI, ha]
        · simp only [if_true, ptOK, ptN, hI, ha, Bool.true_and]
          by_cases hl : hexN s.data.toList ≤ 1114111
          · have : decide ((hexN s.data.toList : Int) > 1114111) = false := decide_eq_false (by omega)
            simp [this, hl]
          · have : decide ((hexN s.data.toList : Int) > 1114111) = true := decide_eq_true (by omega)
            simp [this, hl]
      by_cases h5 : 4 < s.size
      · have g5 : decide ((s.size : Int) > 4) = true := decide_eq_true (by omega)
        have g0 : decide ((0 : Int) < (s.size : Int)) = true := decide_eq_true (by omega)
        by_cases hz : s.data.toList.getD 0 0 = 48
        · have hz' : decide (((s.data.toList.getD 0 (0 : UInt8)).toNat : Int) = 48) = true := decide_eq_true (by rw [hz]; rfl)
          have hp : ptOK s = false := by unfold ptOK isPt; rw [decide_eq_true h5, hz]; simp
          simp only [c, c2, g5, g0, hz', if_true, hp, Bool.false_eq_true, if_false]
        · have hz' : decide (((s.data.toList.getD 0 (0 : UInt8)).toNat : Int) = 48) = false := decide_eq_false (fun e => hz (UInt8.toNat_inj.1 (by have : (48 : UInt8).toNat = 48 := rfl; omega)))
          simp only [c, c2, g5, g0, hz', if_true, Bool.false_eq_true, if_false]
          refine fin ?_
          unfold isPt
          rw [e4, e6, decide_eq_true h5, allIn_hex]
          have : (s.data.toList.getD 0 0 == 48) = false := by simpa using hz
          rw [this]; simp
      · have g5 : decide ((s.size : Int) > 4) = false := decide_eq_false (by omega)
        simp only [c, c2, g5, Bool.false_eq_true, if_false]
        refine fin ?_
        unfold isPt
        rw [e4, e6, decide_eq_false h5, allIn_hex]; simp

theorem ptN_le {s : ByteArray} (h : ptOK s = true) : ptN s ≤ 1114111 := by
  unfold ptOK at h
  simp only [Bool.and_eq_true, decide_eq_true_eq] at h
  unfold ptN
  rw [if_pos h.1]; exact h.2
theorem rspan_is (a b : ByteArray) : ref07_span a b = some (if spanOK a b then (true, (ptN a : Int), (ptN b : Int)) else (false, 0, 0)) := by
  unfold ref07_span
  rw [rpoint_is a, rpoint_is b]
  simp only [Option.bind_some]
  unfold spanOK
  cases ha : ptOK a
  · simp
  · cases hb : ptOK b
    · have c1 : decide ((ptN a : Int) < 0) = false := decide_eq_false (by omega)
      simp [c1]
    · have c1 : decide ((ptN a : Int) < 0) = false := decide_eq_false (by omega)
      have c2 : decide ((ptN b : Int) < 0) = false := decide_eq_false (by omega)
      have la := ptN_le ha
      have lb := ptN_le hb
      have wa : IntKind.u32.wrap (ptN a : Int) = ptN a := by rw [IntKind.wrap_u32]; omega
      have wb : IntKind.u32.wrap (ptN b : Int) = ptN b := by rw [IntKind.wrap_u32]; omega
      by_cases hle : ptN a ≤ ptN b
      · have c3 : decide ((ptN a : Int) > (ptN b : Int)) = false := decide_eq_false (by omega)
        simp [c1, c2, c3, wa, wb, hle]
      · have c3 : decide ((ptN a : Int) > (ptN b : Int)) = true := decide_eq_true (by omega)
        simp [c1, c2, c3, hle]

theorem rall_loop (s : ByteArray) (f t : Nat) (l m : Int) (hs : s.size ≤ 9223372036854775806) : runLoop ref07_all_b2 (s, (f : Int), (t : Int), l, m, 0) = some (if s.data.toList.all (rngB f t) then .inr (s, l, m) else .inl false) := by
  have hsz : s.data.toList.length = s.size := Array.length_toList
  refine runLoop_to (fun i : Nat => i ≤ s.size ∧ (s.data.toList.take i).all (rngB f t) = true) (fun i : Nat => (s, (f : Int), (t : Int), l, m, (i : Int))) (fun i => s.size - i) _ ?_ 0 ⟨Nat.zero_le _, rfl⟩
  intro i ⟨hi, ha⟩
  by_cases hlt : i < s.size
  · obtain ⟨b, hb⟩ : ∃ b, s.data.toList[i]? = some b := ⟨_, List.getElem?_eq_getElem (by omega)⟩
    have d0 : decide ((i : Int) < (s.size : Int)) = true := decide_eq_true (by omega)
    have d1 : decide ((0 : Int) ≤ (i : Int)) = true := decide_eq_true (by omega)
    have hg := getD_at _ i b hb
    have no : rngB f t b = false → s.data.toList.all (rngB f t) = false := fun hx => by
      cases e : s.data.toList.all (rngB f t) with
      | false => rfl
      | true => have := List.all_eq_true.1 e b (List.mem_of_getElem? hb); rw [hx] at this; cases this
    have w4 : IntKind.i64.wrap ((i : Int) + 1) = ((i + 1 : Nat) : Int) := by rw [wrap_i64] <;> omega
    by_cases h1 : f ≤ b.toNat
    · have c1 : decide ((b.toNat : Int) < (f : Int)) = false := decide_eq_false (by omega)
      by_cases h2 : b.toNat ≤ t
      · left
        have c2 : decide ((b.toNat : Int) > (t : Int)) = false := decide_eq_false (by omega)
        have ht : s.data.toList.take (i + 1) = s.data.toList.take i ++ [b] := by rw [List.take_add_one, hb]; rfl
        refine ⟨i + 1, ?_, ⟨hlt, by rw [ht, List.all_append, ha]; simp [rngB, h1, h2]⟩, by omega⟩
        simp only [ref07_all_b2, d0, d1, Bool.and_self, if_true, Int.toNat_natCast, hg, c1, c2, Bool.false_eq_true, if_false, w4]
      · right
        have c2 : decide ((b.toNat : Int) > (t : Int)) = true := decide_eq_true (by omega)
        rw [no (by simp [rngB, h2])]
        simp only [ref07_all_b2, d0, d1, Bool.and_self, if_true, Int.toNat_natCast, hg, c1, c2, Bool.false_eq_true, if_false]
    · right
      have c1 : decide ((b.toNat : Int) < (f : Int)) = true := decide_eq_true (by omega)
      rw [no (by simp [rngB, h1])]
      simp only [ref07_all_b2, d0, d1, Bool.and_self, if_true, Int.toNat_natCast, hg, c1, Bool.false_eq_true, if_false]
  · right
    have : i = s.size := by omega
    subst this
    have d0 : decide ((s.size : Int) < (s.size : Int)) = false := decide_eq_false (by omega)
    rw [← hsz, List.take_length] at ha
    rw [if_pos ha]
    simp only [ref07_all_b2, d0, Bool.false_eq_true, if_false]
theorem rall_is (s : ByteArray) (f t l m : Nat) (hs : s.size ≤ 9223372036854775806) : ref07_all s (f : Int) (t : Int) (l : Int) (m : Int) = some (s.data.toList.all (rngB f t) && decide (l ≤ s.size) && decide (s.size ≤ m)) := by
  unfold ref07_all
  rw [rall_loop s f t l m hs]
  simp only [Option.bind_some]
  cases s.data.toList.all (rngB f t)
  · rfl
  · by_cases h : l ≤ s.size
    · have c : decide ((s.size : Int) ≥ (l : Int)) = true := decide_eq_true (by omega)
      simp [c, h]
    · have c : decide ((s.size : Int) ≥ (l : Int)) = false := decide_eq_false (by omega)
      simp [c, h]

theorem dig_rng (s : ByteArray) : allIn digits10 s = s.data.toList.all (rngB 48 57) := allIn_rng _ _ _ _ (by decide +kernel)
theorem caps_rng (s : ByteArray) : allIn capsB s = s.data.toList.all (rngB 65 90) := allIn_rng _ _ _ _ (by decide +kernel)
theorem smalls_rng (s : ByteArray) : allIn smallsB s = s.data.toList.all (rngB 97 122) := allIn_rng _ _ _ _ (by decide +kernel)

theorem rnumber_loop (s : ByteArray) (h6 : s.size ≤ 3) (ha : s.data.toList.all (rngB 48 57) = true) : runLoop ref07_number_b5 (s, 0, 0) = some (decN s.data.toList : Int) := by
  have hsz : s.data.toList.length = s.size := Array.length_toList
  have hd : ∀ b ∈ s.data.toList, 48 ≤ b.toNat ∧ b.toNat ≤ 57 := fun b hb => by
    have := List.all_eq_true.1 ha b hb
    simpa [rngB] using this
  refine runLoop_to (fun i : Nat => i ≤ s.size) (fun i : Nat => (s, ((decN (s.data.toList.take i) : Nat) : Int), (i : Int))) (fun i => s.size - i) _ ?_ 0 (Nat.zero_le _)
  intro i hi
  by_cases hlt : i < s.size
  · left
    obtain ⟨b, hb⟩ : ∃ b, s.data.toList[i]? = some b := ⟨_, List.getElem?_eq_getElem (by omega)⟩
    have d0 : decide ((i : Int) < (s.size : Int)) = true := decide_eq_true (by omega)
    have d1 : decide ((0 : Int) ≤ (i : Int)) = true := decide_eq_true (by omega)
    have hg := getD_at _ i b hb
    have hbd := hd b (List.mem_of_getElem? hb)
    refine ⟨i + 1, ?_, hlt, by omega⟩
    have hn : decN (s.data.toList.take i) ≤ 100 := by
      have := decN_lt (s.data.toList.take i) (fun b hb => hd b (List.mem_of_mem_take hb))
      have hl : (s.data.toList.take i).length ≤ 2 := by rw [List.length_take]; omega
      have : 10 ^ (s.data.toList.take i).length ≤ 10 ^ 2 := Nat.pow_le_pow_right (by omega) hl
      omega
    have hst : decN (s.data.toList.take (i + 1)) = decN (s.data.toList.take i) * 10 + (b.toNat - 48) := by rw [List.take_add_one, hb]; simp [decN]
    rw [hst]
    generalize decN (s.data.toList.take i) = n at *
    have w3 : IntKind.i64.wrap ((n : Int) * 10) = n * 10 := by rw [wrap_i64] <;> omega
    have w4 : IntKind.i64.wrap ((i : Int) + 1) = ((i + 1 : Nat) : Int) := by rw [wrap_i64] <;> omega
    have w5 : IntKind.u8.wrap ((b.toNat : Int) - 48) = ((b.toNat - 48 : Nat) : Int) := by rw [IntKind.wrap_u8]; omega
    have w6 : IntKind.i64.wrap ((b.toNat - 48 : Nat) : Int) = ((b.toNat - 48 : Nat) : Int) := by rw [wrap_i64] <;> omega
    have w7 : IntKind.i64.wrap ((n : Int) * 10 + ((b.toNat - 48 : Nat) : Int)) = ((n * 10 + (b.toNat - 48) : Nat) : Int) := by rw [wrap_i64] <;> omega
    simp only [ref07_number_b5, d0, d1, Bool.and_self, if_true, Int.toNat_natCast, hg, w3, w4, w5, w6, w7]
  · right
    have : i = s.size := by omega
    subst this
    have d0 : decide ((s.size : Int) < (s.size : Int)) = false := decide_eq_false (by omega)
    simp only [ref07_number_b5, d0, Bool.false_eq_true, if_false]
    rw [← hsz, List.take_length]
theorem rnumber_is (s : ByteArray) (hs : s.size ≤ 1000000) : ref07_number s = some (if numOK s then (decN s.data.toList : Int) else 0) := by
  unfold ref07_number
  have hr := rall_is s 48 57 1 3 (by omega)
  have hr' : ref07_all s (48 : Int) (57 : Int) (1 : Int) (3 : Int) = _ := hr
  rw [hr', ← dig_rng]
  simp only [Option.bind_some]
  unfold numOK
  by_cases hA : (allIn digits10 s && decide (1 ≤ s.size) && decide (s.size ≤ 3)) = true
  · have hA' := hA
    simp only [Bool.and_eq_true, decide_eq_true_eq] at hA'
    obtain ⟨⟨a1, a2⟩, a3⟩ := hA'
    have e3 : decide ((0 : Int) < (s.size : Int)) = true := decide_eq_true (by omega)
    have hz : decide (((s.data.toList.getD 0 (0 : UInt8)).toNat : Int) = 48) = (s.data.toList.getD 0 0 == 48) := by
      rw [Bool.eq_iff_iff, decide_eq_true_eq, beq_iff_eq]
      constructor
      · intro h; exact UInt8.toNat_inj.1 (by have : (48 : UInt8).toNat = 48 := rfl; omega)
      · intro h; rw [h]; rfl
    rw [hA]
    simp only [Bool.not_true, Bool.false_eq_true, if_false, e3, if_true, hz]
    cases hZ : (s.data.toList.getD 0 0 == 48)
    · rw [rnumber_loop s a3 (by rw [← dig_rng]; exact a1)]
      simp only [Bool.false_eq_true, if_false, Option.bind_some]
      by_cases hl : decN s.data.toList ≤ 254
      · have : decide ((decN s.data.toList : Int) > 254) = false := decide_eq_false (by omega)
        simp [this, hl, a1, a2, a3]
      · have : decide ((decN s.data.toList : Int) > 254) = true := decide_eq_true (by omega)
        simp [this, hl]
    · simp
  · have hA0 : (allIn digits10 s && decide (1 ≤ s.size) && decide (s.size ≤ 3)) = false := by simpa using hA
    have h2 : (decide (1 ≤ s.size) && decide (s.size ≤ 3) && allIn digits10 s) = false := by
      rw [← hA0]
      cases allIn digits10 s <;> cases decide (1 ≤ s.size) <;> cases decide (s.size ≤ 3) <;> rfl
    rw [hA0, h2]
    simp
end Go.Pc

namespace Go.Pc
open Go Go.Sx Go.Tx
def resB {T : Type} (r : List T ⊕ Nat) : Int × List T := match r with
  | .inl l => (0, l)
  | .inr k => ((k : Int), [])
def outB {T : Type} (r : List T ⊕ Nat) : Int ⊕ List T := match r with
  | .inl l => .inr l
  | .inr k => .inl (k : Int)

def stepB {T : Type} (L : List (List ByteArray)) (i : Nat) (acc : List T) : Option T → (Int × List (List ByteArray) × List T) ⊕ (Int ⊕ List T)
  | none => .inr (.inl ((i + 1 : Nat) : Int))
  | some x => .inl (((i + 1 : Nat) : Int), L, acc ++ [x])
theorem readB_go {T : Type} (b : Int × List (List ByteArray) × List T → Option ((Int × List (List ByteArray) × List T) ⊕ (Int ⊕ List T))) (one : List ByteArray → List T → Option T) (L : List (List ByteArray))
    (hend : ∀ acc, b ((L.length : Int), L, acc) = some (.inr (.inr acc)))
    (hstep : ∀ (i : Nat) (acc : List T) (w : List ByteArray), L[i]? = some w → acc.length = i → i < L.length → b ((i : Int), L, acc) = some (stepB L i acc (one w acc))) :
    ∀ (n i : Nat) (acc : List T), n + i = L.length → acc.length = i → runLoop b ((i : Int), L, acc) = some (outB (readR one (L.drop i) acc i)) := by
  intro n
  induction n with
  | zero =>
    intro i acc h1 h2
    have : i = L.length := by omega
    subst this
    rw [runLoop_done (hend acc), List.drop_length]; rfl
  | succ n ih =>
    intro i acc h1 h2
    have hi : i < L.length := by omega
    have hs := hstep i acc L[i] (List.getElem?_eq_getElem hi) h2 hi
    rw [List.drop_eq_getElem_cons hi]
    unfold readR
    cases ho : one L[i] acc with
    | none => rw [ho] at hs; rw [runLoop_done hs]; rfl
    | some x => rw [ho] at hs; rw [runLoop_step hs]; exact ih (i + 1) (acc ++ [x]) (by omega) (by simp [h2])

theorem lines_len (s : ByteArray) (hs : s.size ≤ 1000000) : (linesOf s).length ≤ 1000001 := by
  unfold linesOf
  split
  · simp
  · rw [List.length_map]; have := spB_len 10 s; omega
theorem lines_word (s : ByteArray) (hs : s.size ≤ 1000000) : ∀ w ∈ linesOf s, w.length ≤ 1000001 ∧ ∀ x ∈ w, x.size ≤ 1000000 := by
  intro w hw
  unfold linesOf at hw
  split at hw
  · cases hw
  · obtain ⟨l, hl, rfl⟩ := List.mem_map.1 hw
    have h1 := spB_word 10 s l hl
    have h2 := spB_len 32 l
    exact ⟨by omega, fun x hx => by have := spB_word 32 l x hx; omega⟩

theorem behind_get {T : Type} (acc : List T) (key : T → Int) (d : T) (x : Int) (i : Nat) (ha : acc.length = i) (hi : 0 < i) : behindI (acc.getLast?.map key) x = !decide (key (acc.getD (i - 1) d) ≥ x) := by
  rcases last_cases acc with rfl | ⟨j, e, rfl⟩
  · simp at ha; omega
  · have hj : i - 1 = j.length := by rw [← ha]; simp
    rw [hj, getD_lst, List.getLast?_concat]
    show decide (key e < x) = _
    by_cases h : key e < x
    · have : ¬ key e ≥ x := by omega
      simp [h, this]
    · have : key e ≥ x := by omega
      simp [h, this]
theorem nil_of_len {T : Type} {l : List T} (h : l.length = 0) : l = [] := List.length_eq_zero_iff.1 h

theorem decN_ge (l : List UInt8) : ∀ a : Nat, a ≤ l.foldl (fun n b => n * 10 + (b.toNat - 48)) a := by
  induction l with
  | nil => intro a; exact Nat.le_refl _
  | cons b r ih =>
    intro a
    rw [List.foldl_cons]
    exact Nat.le_trans (by omega) (ih _)
theorem decN_pos (c : ByteArray) (h1 : 1 ≤ c.size) (h3 : allIn digits10 c = true) (h4 : (!(c.data.toList.getD 0 0 == 48)) = true) : 0 < decN c.data.toList := by
  have hsz : c.data.toList.length = c.size := Array.length_toList
  have hd := dig_of h3
  cases hq : c.data.toList with
  | nil => rw [hq] at hsz; simp at hsz; omega
  | cons x r =>
    rw [hq] at hd h4
    have hx := hd x (by simp)
    have hne : x ≠ 48 := by simpa [List.getD] using h4
    have hn : x.toNat ≠ 48 := fun e => hne (UInt8.toNat_inj.1 e)
    unfold decN
    rw [List.foldl_cons]
    have := decN_ge r (0 * 10 + (x.toNat - 48))
    omega

theorem rClasses_step (L : List (List ByteArray)) (hLl : L.length ≤ 1000001) (hLw : ∀ w ∈ L, w.length ≤ 1000001 ∧ ∀ x ∈ w, x.size ≤ 1000000) (i : Nat) (acc : List (Int × Int × Int)) (w : List ByteArray) (hw : L[i]? = some w) (ha : acc.length = i) (hi : i < L.length) :
    ref07_Classes_b4 ((i : Int), L, acc) = some (stepB L i acc (oneW w acc)) := by
  have hm : w ∈ L := List.mem_of_getElem? hw
  have d0 : decide ((i : Int) < (L.length : Int)) = true := decide_eq_true (by omega)
  have d1 : decide ((0 : Int) ≤ (i : Int)) = true := decide_eq_true (by omega)
  have d2 : decide (i < L.length) = true := decide_eq_true hi
  have hg : L.getD i [] = w := by rw [List.getD_eq_getElem?_getD, hw]; rfl
  have hwr : IntKind.i64.wrap ((i : Int) + 1) = ((i + 1 : Nat) : Int) := by rw [wrap_i64] <;> omega
  by_cases h3 : w.length = 3
  · obtain ⟨a, b, c, rfl⟩ := three h3
    have hc := (hLw _ hm).2 c (by simp)
    have e0 : ((([a, b, c].length : Nat) : Int) != 3) = false := rfl
    have e1 : decide ((0 : Int) < (([a, b, c].length : Nat) : Int)) = true := rfl
    have e2 : decide (0 < [a, b, c].length) = true := rfl
    have e3 : decide ((1 : Int) < (([a, b, c].length : Nat) : Int)) = true := rfl
    have e4 : decide (1 < [a, b, c].length) = true := rfl
    have e5 : decide ((2 : Int) < (([a, b, c].length : Nat) : Int)) = true := rfl
    have e6 : decide (2 < [a, b, c].length) = true := rfl
    have g0 : [a, b, c].getD 0 ByteArray.empty = a := rfl
    have g1 : [a, b, c].getD 1 ByteArray.empty = b := rfl
    have g2 : [a, b, c].getD 2 ByteArray.empty = c := rfl
    simp only [ref07_Classes_b4, d0, d1, d2, Bool.and_self, if_true, Int.toNat_natCast, hg, e0, Bool.false_eq_true, if_false, e1, e2, e3, e4, e5, e6, g0, g1, g2, rspan_is a b, rnumber_is c (by omega), Option.bind_some, hwr]
    cases hS : spanOK a b
    · have ho : oneW [a, b, c] acc = none := by simp only [oneW, hS, Bool.false_and, Bool.false_eq_true, if_false]
      rw [ho]
      simp only [Bool.false_eq_true, if_false, Bool.not_false, if_true, stepB]
    · cases hN : numOK c
      · have ho : oneW [a, b, c] acc = none := by simp only [oneW, hN, Bool.and_false, Bool.false_eq_true, if_false]
        rw [ho]
        simp only [Bool.false_eq_true, if_false, Bool.not_true, if_true, show decide ((0 : Int) = 0) = true from rfl, decide_true, stepB]
      · have hN' := hN
        simp only [numOK, Bool.and_eq_true, decide_eq_true_eq] at hN'
        obtain ⟨⟨⟨⟨m1, m2⟩, m3⟩, m4⟩, m5⟩ := hN'
        have hpos : 0 < decN c.data.toList := decN_pos c m1 m3 m4
        have hz : decide ((decN c.data.toList : Int) = 0) = false := decide_eq_false (by omega)
        have hu : IntKind.u32.wrap (decN c.data.toList : Int) = decN c.data.toList := by rw [IntKind.wrap_u32]; omega
        simp only [if_true, Bool.not_true, Bool.false_eq_true, if_false, hz, hu]
        by_cases h0 : 0 < i
        · have c1 : decide ((i : Int) > 0) = true := decide_eq_true (by omega)
          have hwp : IntKind.i64.wrap ((i : Int) - 1) = ((i - 1 : Nat) : Int) := by rw [wrap_i64] <;> omega
          have c2 : decide ((0 : Int) ≤ ((i - 1 : Nat) : Int)) = true := decide_eq_true (by omega)
          have c3 : decide (((i - 1 : Nat) : Int) < (acc.length : Int)) = true := decide_eq_true (by omega)
          have c4 : decide (i - 1 < acc.length) = true := decide_eq_true (by omega)
          have hb := behind_get acc (fun e => e.2.1) ((0 : Int), (0 : Int), (0 : Int)) (ptN a : Int) i ha h0
          simp only [c1, if_true, hwp, c2, c3, Bool.and_self, Int.toNat_natCast, c4]
          cases hB : decide ((acc.getD (i - 1) ((0 : Int), (0 : Int), (0 : Int))).2.1 ≥ (ptN a : Int))
          · have ho : oneW [a, b, c] acc = some ((ptN a : Int), (ptN b : Int), (decN c.data.toList : Int)) := by
              simp only [oneW, hS, hN, hb]
              rw [hB]; rfl
            have hlen : decide ((acc.length + [((ptN a : Int), (ptN b : Int), (decN c.data.toList : Int))].length) * 12 ≤ 140737488355328) = true := decide_eq_true (by simp; omega)
            rw [ho]
            simp only [Bool.false_eq_true, if_false, hlen, if_true, stepB]
          · have ho : oneW [a, b, c] acc = none := by
              simp only [oneW, hS, hN, hb]
              rw [hB]; rfl
            rw [ho]
            simp only [if_true, stepB]
        · have c1 : decide ((i : Int) > 0) = false := decide_eq_false (by omega)
          have hnil : acc = [] := nil_of_len (by omega)
          subst hnil
          have ho : oneW [a, b, c] [] = some ((ptN a : Int), (ptN b : Int), (decN c.data.toList : Int)) := by
            simp only [oneW, hS, hN]
            rfl
          rw [ho]
          simp only [c1, Bool.false_eq_true, if_false]
          rfl
  · have e0 : (((w.length : Nat) : Int) != 3) = true := by simp; omega
    have ho : oneW w acc = none := oneW_ne acc h3
    rw [ho]
    simp only [ref07_Classes_b4, d0, d1, d2, Bool.and_self, if_true, Int.toNat_natCast, hg, e0, hwr, stepB]
theorem rClasses_is (s : ByteArray) (hs : s.size ≤ 1000000) : ref07_Classes s = some (resB (readR oneW (linesOf s) [] 0)) := by
  unfold ref07_Classes
  rw [rlines_is s hs]
  simp only [Option.bind_some]
  have h1 := lines_len s hs
  have h2 := lines_word s hs
  generalize linesOf s = L at *
  have key := readB_go ref07_Classes_b4 oneW L (fun acc => by simp [ref07_Classes_b4]) (rClasses_step L h1 h2) L.length 0 [] (by omega) rfl
  rw [show ((0 : Nat) : Int) = 0 from rfl, List.drop_zero] at key
  rw [key]
  simp only [Option.bind_some]
  cases readR oneW L [] 0 <;> rfl

theorem rRuns_step (L : List (List ByteArray)) (hLl : L.length ≤ 1000001) (hLw : ∀ w ∈ L, w.length ≤ 1000001 ∧ ∀ x ∈ w, x.size ≤ 1000000) (i : Nat) (acc : List (Int × Int × Int)) (w : List ByteArray) (hw : L[i]? = some w) (ha : acc.length = i) (hi : i < L.length) :
    ref07_Runs_b4 ((i : Int), L, acc) = some (stepB L i acc (oneRun w acc)) := by
  have hm : w ∈ L := List.mem_of_getElem? hw
  have d0 : decide ((i : Int) < (L.length : Int)) = true := decide_eq_true (by omega)
  have d1 : decide ((0 : Int) ≤ (i : Int)) = true := decide_eq_true (by omega)
  have d2 : decide (i < L.length) = true := decide_eq_true hi
  have hg : L.getD i [] = w := by rw [List.getD_eq_getElem?_getD, hw]; rfl
  have hwr : IntKind.i64.wrap ((i : Int) + 1) = ((i + 1 : Nat) : Int) := by rw [wrap_i64] <;> omega
  by_cases h3 : w.length = 3
  · obtain ⟨a, b, c, rfl⟩ := three h3
    have hc := (hLw _ hm).2 c (by simp)
    have e0 : ((([a, b, c].length : Nat) : Int) != 3) = false := rfl
    have e1 : decide ((0 : Int) < (([a, b, c].length : Nat) : Int)) = true := rfl
    have e2 : decide (0 < [a, b, c].length) = true := rfl
    have e3 : decide ((1 : Int) < (([a, b, c].length : Nat) : Int)) = true := rfl
    have e4 : decide (1 < [a, b, c].length) = true := rfl
    have e5 : decide ((2 : Int) < (([a, b, c].length : Nat) : Int)) = true := rfl
    have e6 : decide (2 < [a, b, c].length) = true := rfl
    have g0 : [a, b, c].getD 0 ByteArray.empty = a := rfl
    have g1 : [a, b, c].getD 1 ByteArray.empty = b := rfl
    have g2 : [a, b, c].getD 2 ByteArray.empty = c := rfl
    simp only [ref07_Runs_b4, d0, d1, d2, Bool.and_self, if_true, Int.toNat_natCast, hg, e0, Bool.false_eq_true, if_false, e1, e2, e3, e4, e5, e6, g0, g1, g2, rspan_is a b, rpoint_is c, Option.bind_some, hwr]
    cases hS : spanOK a b
    · have ho : oneRun [a, b, c] acc = none := by simp only [oneRun, hS, Bool.false_and, Bool.false_eq_true, if_false]
      rw [ho]
      simp only [Bool.false_eq_true, if_false, Bool.not_false, if_true, stepB]
    · cases hN : ptOK c
      · have ho : oneRun [a, b, c] acc = none := by simp only [oneRun, hN, Bool.and_false, Bool.false_eq_true, if_false]
        rw [ho]
        simp only [Bool.false_eq_true, if_false, Bool.not_true, if_true, show decide ((-1 : Int) < 0) = true from rfl, decide_true, stepB]
      · have hle := ptN_le hN
        have hz : decide ((ptN c : Int) < 0) = false := decide_eq_false (by omega)
        have hu : IntKind.u32.wrap (ptN c : Int) = ptN c := by rw [IntKind.wrap_u32]; omega
        simp only [if_true, Bool.not_true, Bool.false_eq_true, if_false, hz, hu]
        by_cases h0 : 0 < i
        · have c1 : decide ((i : Int) > 0) = true := decide_eq_true (by omega)
          have hwp : IntKind.i64.wrap ((i : Int) - 1) = ((i - 1 : Nat) : Int) := by rw [wrap_i64] <;> omega
          have c2 : decide ((0 : Int) ≤ ((i - 1 : Nat) : Int)) = true := decide_eq_true (by omega)
          have c3 : decide (((i - 1 : Nat) : Int) < (acc.length : Int)) = true := decide_eq_true (by omega)
          have c4 : decide (i - 1 < acc.length) = true := decide_eq_true (by omega)
          have hb := behind_get acc (fun e => e.2.1) ((0 : Int), (0 : Int), (0 : Int)) (ptN a : Int) i ha h0
          simp only [c1, if_true, hwp, c2, c3, Bool.and_self, Int.toNat_natCast, c4]
          cases hB : decide ((acc.getD (i - 1) ((0 : Int), (0 : Int), (0 : Int))).2.1 ≥ (ptN a : Int))
          · have ho : oneRun [a, b, c] acc = some ((ptN a : Int), (ptN b : Int), (ptN c : Int)) := by
              simp only [oneRun, hS, hN, hb]
              rw [hB]; rfl
            have hlen : decide ((acc.length + [((ptN a : Int), (ptN b : Int), (ptN c : Int))].length) * 12 ≤ 140737488355328) = true := decide_eq_true (by simp; omega)
            rw [ho]
            simp only [Bool.false_eq_true, if_false, hlen, if_true, stepB]
          · have ho : oneRun [a, b, c] acc = none := by
              simp only [oneRun, hS, hN, hb]
              rw [hB]; rfl
            rw [ho]
            simp only [if_true, stepB]
        · have c1 : decide ((i : Int) > 0) = false := decide_eq_false (by omega)
          have hnil : acc = [] := nil_of_len (by omega)
          subst hnil
          have ho : oneRun [a, b, c] [] = some ((ptN a : Int), (ptN b : Int), (ptN c : Int)) := by
            simp only [oneRun, hS, hN]
            rfl
          rw [ho]
          simp only [c1, Bool.false_eq_true, if_false]
          rfl
  · have e0 : (((w.length : Nat) : Int) != 3) = true := by simp; omega
    have ho : oneRun w acc = none := oneRun_ne acc h3
    rw [ho]
    simp only [ref07_Runs_b4, d0, d1, d2, Bool.and_self, if_true, Int.toNat_natCast, hg, e0, hwr, stepB]
theorem rRuns_is (s : ByteArray) (hs : s.size ≤ 1000000) : ref07_Runs s = some (resB (readR oneRun (linesOf s) [] 0)) := by
  unfold ref07_Runs
  rw [rlines_is s hs]
  simp only [Option.bind_some]
  have h1 := lines_len s hs
  have h2 := lines_word s hs
  generalize linesOf s = L at *
  have key := readB_go ref07_Runs_b4 oneRun L (fun acc => by simp [ref07_Runs_b4]) (rRuns_step L h1 h2) L.length 0 [] (by omega) rfl
  rw [show ((0 : Nat) : Int) = 0 from rfl, List.drop_zero] at key
  rw [key]
  simp only [Option.bind_some]
  cases readR oneRun L [] 0 <;> rfl
end Go.Pc

namespace Go.Pc
open Go Go.Sx Go.Tx
theorem rcaps_is (s : ByteArray) (l m : Nat) (hs : s.size ≤ 9223372036854775806) : ref07_all s 65 90 (l : Int) (m : Int) = some (decide (l ≤ s.size) && decide (s.size ≤ m) && allIn capsB s) := by
  have h := rall_is s 65 90 l m hs
  have h' : ref07_all s 65 90 (l : Int) (m : Int) = _ := h
  rw [h', ← caps_rng, Bool.and_assoc, Bool.and_comm]
theorem rsmalls_is (s : ByteArray) (l m : Nat) (hs : s.size ≤ 9223372036854775806) : ref07_all s 97 122 (l : Int) (m : Int) = some (decide (l ≤ s.size) && decide (s.size ≤ m) && allIn smallsB s) := by
  have h := rall_is s 97 122 l m hs
  have h' : ref07_all s 97 122 (l : Int) (m : Int) = _ := h
  rw [h', ← smalls_rng, Bool.and_assoc, Bool.and_comm]

theorem rSets_step (L : List (List ByteArray)) (hLl : L.length ≤ 1000001) (hLw : ∀ w ∈ L, w.length ≤ 1000001 ∧ ∀ x ∈ w, x.size ≤ 1000000) (i : Nat) (acc : List (ByteArray × Int × Int)) (w : List ByteArray) (hw : L[i]? = some w) (ha : acc.length = i) (hi : i < L.length) :
    ref07_Sets_b4 ((i : Int), L, acc) = some (stepB L i acc (oneNamed w acc)) := by
  have hm : w ∈ L := List.mem_of_getElem? hw
  have d0 : decide ((i : Int) < (L.length : Int)) = true := decide_eq_true (by omega)
  have d1 : decide ((0 : Int) ≤ (i : Int)) = true := decide_eq_true (by omega)
  have d2 : decide (i < L.length) = true := decide_eq_true hi
  have hg : L.getD i [] = w := by rw [List.getD_eq_getElem?_getD, hw]; rfl
  have hwr : IntKind.i64.wrap ((i : Int) + 1) = ((i + 1 : Nat) : Int) := by rw [wrap_i64] <;> omega
  by_cases h3 : w.length = 3
  · obtain ⟨a, b, c, rfl⟩ := three h3
    have hasz := (hLw _ hm).2 a (by simp)
    have e0 : ((([a, b, c].length : Nat) : Int) != 3) = false := rfl
    have e1 : decide ((0 : Int) < (([a, b, c].length : Nat) : Int)) = true := rfl
    have e2 : decide (0 < [a, b, c].length) = true := rfl
    have e3 : decide ((1 : Int) < (([a, b, c].length : Nat) : Int)) = true := rfl
    have e4 : decide (1 < [a, b, c].length) = true := rfl
    have e5 : decide ((2 : Int) < (([a, b, c].length : Nat) : Int)) = true := rfl
    have e6 : decide (2 < [a, b, c].length) = true := rfl
    have g0 : [a, b, c].getD 0 ByteArray.empty = a := rfl
    have g1 : [a, b, c].getD 1 ByteArray.empty = b := rfl
    have g2 : [a, b, c].getD 2 ByteArray.empty = c := rfl
    have hall : ref07_all a 65 90 1 10 = some (decide (1 ≤ a.size) && decide (a.size ≤ 10) && allIn capsB a) := rcaps_is a 1 10 (by omega)
    have hlen : ∀ x : ByteArray × Int × Int, decide ((acc.length + [x].length) * 24 ≤ 140737488355328) = true := fun x => decide_eq_true (by simp; omega)
    simp only [ref07_Sets_b4, d0, d1, d2, Bool.and_self, if_true, Int.toNat_natCast, hg, e0, Bool.false_eq_true, if_false, e1, e2, e3, e4, e5, e6, g0, g1, g2, rspan_is b c, hall, Option.bind_some, hwr, hlen]
    cases hM : (decide (1 ≤ a.size) && decide (a.size ≤ 10) && allIn capsB a)
    · have ho : oneNamed [a, b, c] acc = none := by simp only [oneNamed, hM, Bool.false_and, Bool.false_eq_true, if_false]
      rw [ho]; rfl
    · cases hS : spanOK b c
      · have ho : oneNamed [a, b, c] acc = none := by simp only [oneNamed, hM, hS, Bool.and_false, Bool.false_eq_true, if_false]
        rw [ho]; rfl
      · have ho : oneNamed [a, b, c] acc = some (a, (ptN b : Int), (ptN c : Int)) := by simp only [oneNamed, hM, hS, Bool.and_self, if_true]
        rw [ho]; rfl
  · have e0 : (((w.length : Nat) : Int) != 3) = true := by simp; omega
    have ho : oneNamed w acc = none := oneNamed_ne acc h3
    rw [ho]
    simp only [ref07_Sets_b4, d0, d1, d2, Bool.and_self, if_true, Int.toNat_natCast, hg, e0, hwr, stepB]
theorem rSets_is (s : ByteArray) (hs : s.size ≤ 1000000) : ref07_Sets s = some (resB (readR oneNamed (linesOf s) [] 0)) := by
  unfold ref07_Sets
  rw [rlines_is s hs]
  simp only [Option.bind_some]
  have h1 := lines_len s hs
  have h2 := lines_word s hs
  generalize linesOf s = L at *
  have key := readB_go ref07_Sets_b4 oneNamed L (fun acc => by simp [ref07_Sets_b4]) (rSets_step L h1 h2) L.length 0 [] (by omega) rfl
  rw [show ((0 : Nat) : Int) = 0 from rfl, List.drop_zero] at key
  rw [key]
  simp only [Option.bind_some]
  cases readR oneNamed L [] 0 <;> rfl

def outB2 {T : Type} (r : List T ⊕ Nat) : List T ⊕ Int := match r with
  | .inl l => .inl l
  | .inr k => .inr (k : Int)
def stepB2 {T : Type} (L : List (List ByteArray)) (i : Nat) (acc : List T) : Option T → (Int × List (List ByteArray) × List T) ⊕ (List T ⊕ Int)
  | none => .inr (.inr ((i + 1 : Nat) : Int))
  | some x => .inl (((i + 1 : Nat) : Int), L, acc ++ [x])
theorem readB2_go {T : Type} (b : Int × List (List ByteArray) × List T → Option ((Int × List (List ByteArray) × List T) ⊕ (List T ⊕ Int))) (one : List ByteArray → List T → Option T) (L : List (List ByteArray))
    (hend : ∀ acc, b ((L.length : Int), L, acc) = some (.inr (.inl acc)))
    (hstep : ∀ (i : Nat) (acc : List T) (w : List ByteArray), L[i]? = some w → acc.length = i → i < L.length → b ((i : Int), L, acc) = some (stepB2 L i acc (one w acc))) :
    ∀ (n i : Nat) (acc : List T), n + i = L.length → acc.length = i → runLoop b ((i : Int), L, acc) = some (outB2 (readR one (L.drop i) acc i)) := by
  intro n
  induction n with
  | zero =>
    intro i acc h1 h2
    have : i = L.length := by omega
    subst this
    rw [runLoop_done (hend acc), List.drop_length]; rfl
  | succ n ih =>
    intro i acc h1 h2
    have hi : i < L.length := by omega
    have hs := hstep i acc L[i] (List.getElem?_eq_getElem hi) h2 hi
    rw [List.drop_eq_getElem_cons hi]
    unfold readR
    cases ho : one L[i] acc with
    | none => rw [ho] at hs; rw [runLoop_done hs]; rfl
    | some x => rw [ho] at hs; rw [runLoop_step hs]; exact ih (i + 1) (acc ++ [x]) (by omega) (by simp [h2])

theorem isB_iff (s : ByteArray) (t : List UInt8) : isB s t = List.beq s.data.toList t := by
  unfold isB
  rw [ByteArray.toList_eq, ByteArray.toList_eq]
theorem oneOf (s : ByteArray) (B : List UInt8) : (decide (1 ≤ s.size) && decide (s.size ≤ 1) && s.data.toList.all (fun b => B.contains b)) = B.any (fun x => isB s [x]) := by
  have hsz : s.data.toList.length = s.size := Array.length_toList
  have h : ∀ x, isB s [x] = List.beq s.data.toList [x] := fun x => isB_iff s [x]
  simp only [h, ← hsz]
  cases s.data.toList with
  | nil =>
    have : ∀ x : UInt8, List.beq [] [x] = false := fun x => rfl
    simp [this]
  | cons y r =>
    cases r with
    | nil =>
      have h2 : ∀ x : UInt8, List.beq [y] [x] = (y == x) := fun x => by show ((y == x) && true) = _; rw [Bool.and_true]
      simp only [h2]
      show (true && true && (B.contains y && true)) = B.any (fun x => y == x)
      rw [List.contains_eq_any_beq]
      simp
    | cons z r =>
      have h2 : ∀ x : UInt8, List.beq (y :: z :: r) [x] = false := fun x => by show ((y == x) && false) = _; rw [Bool.and_false]
      simp [h2]
theorem joins_is (e : ByteArray) : (decide (1 ≤ e.size) && decide (e.size ≤ 1) && allIn joinsB e) = (isB e [85] || (isB e [68] || (isB e [82] || (isB e [76] || (isB e [67] || isB e [84]))))) := by
  have h := oneOf e joinsB.data.toList
  unfold allIn
  rw [h]
  simp [joinsB]
theorem signs_is (e : ByteArray) : (decide (1 ≤ e.size) && decide (e.size ≤ 1) && allIn signsB e) = (isB e [61] || (isB e [33] || isB e [126])) := by
  have h := oneOf e signsB.data.toList
  unfold allIn
  rw [h]
  simp [signsB]

theorem rRanges_c12 (i : Nat) (acc : List (Int × Int × ByteArray × ByteArray × ByteArray × Bool)) (L : List (List ByteArray)) (a b c d e f : ByteArray) (h0 h1 : Int) (ha : acc.length = i) (hi : i ≤ 1000001) :
    ref07_Ranges_c12 ((i : Int), acc, L, [a, b, c, d, e, f], h0, h1) = some (if (isB e [85] || (isB e [68] || (isB e [82] || (isB e [76] || (isB e [67] || isB e [84]))))) && newOK f then .inr ((i : Int), acc ++ [(h0, h1, c, d, e, isB f [110, 101, 119])], L) else .inl ((i + 1 : Nat) : Int)) := by
  generalize hW : [a, b, c, d, e, f] = W
  have hWl : W.length = 6 := by rw [← hW]; rfl
  have g2 : W.getD 2 ByteArray.empty = c := by rw [← hW]; rfl
  have g3 : W.getD 3 ByteArray.empty = d := by rw [← hW]; rfl
  have g4 : W.getD 4 ByteArray.empty = e := by rw [← hW]; rfl
  have g5 : W.getD 5 ByteArray.empty = f := by rw [← hW]; rfl
  have e1 : decide ((2 : Int) < ((W.length : Nat) : Int)) = true := decide_eq_true (by omega)
  have e2 : decide (2 < W.length) = true := decide_eq_true (by omega)
  have e3 : decide ((3 : Int) < ((W.length : Nat) : Int)) = true := decide_eq_true (by omega)
  have e4 : decide (3 < W.length) = true := decide_eq_true (by omega)
  have e5 : decide ((4 : Int) < ((W.length : Nat) : Int)) = true := decide_eq_true (by omega)
  have e6 : decide (4 < W.length) = true := decide_eq_true (by omega)
  have e7 : decide ((5 : Int) < ((W.length : Nat) : Int)) = true := decide_eq_true (by omega)
  have e8 : decide (5 < W.length) = true := decide_eq_true (by omega)
  have hwr : IntKind.i64.wrap ((i : Int) + 1) = ((i + 1 : Nat) : Int) := by rw [wrap_i64] <;> omega
  have h14 : ref07_Ranges_c14 ((i : Int), acc, L, W, h0, h1) = some ((i : Int), acc ++ [(h0, h1, c, d, e, isB f [110, 101, 119])], L) := by
    have hlen : ∀ x : Int × Int × ByteArray × ByteArray × ByteArray × Bool, decide ((acc.length + [x].length) * 64 ≤ 140737488355328) = true := fun x => decide_eq_true (by simp; omega)
    simp only [ref07_Ranges_c14, e1, e2, e3, e4, e5, e6, e7, e8, if_true, g2, g3, g4, g5, isB_eq, hlen]
  simp only [ref07_Ranges_c12, e5, e6, e7, e8, if_true, g4, g5, isB_eq, h14, Option.bind_some, hwr]
  rw [show newOK f = (isB f [111, 108, 100] || isB f [110, 101, 119]) from rfl]
  generalize isB e [85] = b1
  generalize isB e [68] = b2
  generalize isB e [82] = b3
  generalize isB e [76] = b4
  generalize isB e [67] = b5
  generalize isB e [84] = b6
  generalize isB f [111, 108, 100] = b7
  generalize isB f [110, 101, 119] = b8
  cases b1
  · cases b2
    · cases b3
      · cases b4
        · cases b5
          · cases b6 <;> cases b7 <;> cases b8 <;> rfl
          · cases b7 <;> cases b8 <;> rfl
        · cases b7 <;> cases b8 <;> rfl
      · cases b7 <;> cases b8 <;> rfl
    · cases b7 <;> cases b8 <;> rfl
  · cases b7 <;> cases b8 <;> rfl

set_option maxHeartbeats 4000000 in
theorem rRanges_c9 (i : Nat) (acc : List (Int × Int × ByteArray × ByteArray × ByteArray × Bool)) (L : List (List ByteArray)) (a b c d e f : ByteArray) (ha : acc.length = i) (hi : i ≤ 1000001) (hc : c.size ≤ 1000000) (hd : d.size ≤ 1000000) :
    ref07_Ranges_c9 ((i : Int), acc, L, [a, b, c, d, e, f]) = some (match oneRange [a, b, c, d, e, f] acc with
      | some x => .inr ((i : Int), acc ++ [x], L)
      | none => .inl ((i + 1 : Nat) : Int)) := by
  have h12 := rRanges_c12 i acc L a b c d e f (ptN a : Int) (ptN b : Int) ha hi
  have hOne : oneRange [a, b, c, d, e, f] acc = if (spanOK a b && behindI (acc.getLast?.map (fun e => e.2.1)) (ptN a)) && catOK c && (decide (1 ≤ d.size) && decide (d.size ≤ 3) && allIn capsB d) && (decide (1 ≤ e.size) && decide (e.size ≤ 1) && allIn joinsB e) && newOK f then some ((ptN a : Int), (ptN b : Int), c, d, e, isB f [110, 101, 119]) else none := rfl
  rw [joins_is] at hOne
  generalize hJ : (isB e [85] || (isB e [68] || (isB e [82] || (isB e [76] || (isB e [67] || isB e [84]))))) = J at h12 hOne
  generalize hW : [a, b, c, d, e, f] = W at *
  have hWl : W.length = 6 := by rw [← hW]; rfl
  have g0 : W.getD 0 ByteArray.empty = a := by rw [← hW]; rfl
  have g1 : W.getD 1 ByteArray.empty = b := by rw [← hW]; rfl
  have g2 : W.getD 2 ByteArray.empty = c := by rw [← hW]; rfl
  have g3 : W.getD 3 ByteArray.empty = d := by rw [← hW]; rfl
  have e1 : decide ((2 : Int) < ((W.length : Nat) : Int)) = true := decide_eq_true (by omega)
  have e2 : decide (2 < W.length) = true := decide_eq_true (by omega)
  have e3 : decide ((3 : Int) < ((W.length : Nat) : Int)) = true := decide_eq_true (by omega)
  have e4 : decide (3 < W.length) = true := decide_eq_true (by omega)
  have e5 : decide ((0 : Int) < ((W.length : Nat) : Int)) = true := decide_eq_true (by omega)
  have e6 : decide (0 < W.length) = true := decide_eq_true (by omega)
  have e7 : decide ((1 : Int) < ((W.length : Nat) : Int)) = true := decide_eq_true (by omega)
  have e8 : decide (1 < W.length) = true := decide_eq_true (by omega)
  have hwr : IntKind.i64.wrap ((i : Int) + 1) = ((i + 1 : Nat) : Int) := by rw [wrap_i64] <;> omega
  have hD : ref07_all d 65 90 1 3 = some (decide (1 ≤ d.size) && decide (d.size ≤ 3) && allIn capsB d) := rcaps_is d 1 3 (by omega)
  generalize hDg : (decide (1 ≤ d.size) && decide (d.size ≤ 3) && allIn capsB d) = DD at hD hOne
  generalize newOK f = NN at h12 hOne
  -- what stands behind the look at the line ahead
  have tail : spanOK a b = true → behindI (acc.getLast?.map (fun e => e.2.1)) (ptN a) = true →
      (if ((((c.size : Nat) : Int)) != 2) = true then (some (.inl ((i + 1 : Nat) : Int)) : Option (Int ⊕ (Int × List (Int × Int × ByteArray × ByteArray × ByteArray × Bool) × List (List ByteArray)))) else
        if decide ((1 : Int) ≤ ((c.size : Nat) : Int)) = true then
          (ref07_all (c.extract 0 1) 65 90 1 1).bind fun r1_0 => if (!r1_0) = true then some (.inl ((i + 1 : Nat) : Int)) else
            if decide ((1 : Int) ≤ ((c.size : Nat) : Int)) = true then
              (ref07_all (c.extract 1 c.size) 97 122 1 1).bind fun r2_0 => if (!r2_0) = true then some (.inl ((i + 1 : Nat) : Int)) else
                if (!DD) = true then some (.inl ((i + 1 : Nat) : Int)) else
                  (ref07_Ranges_c12 ((i : Int), acc, L, W, (ptN a : Int), (ptN b : Int))).bind fun r4_0 => match r4_0 with
                    | .inl r5_0 => some (.inl r5_0)
                    | .inr (r6_0, r6_1, r6_2) => some (.inr (r6_0, (r6_1, r6_2)))
            else none
        else none) = some (match oneRange W acc with
      | some x => .inr ((i : Int), acc ++ [x], L)
      | none => .inl ((i + 1 : Nat) : Int)) := by
    intro hS hB
    rw [hOne, h12, hS, hB]
    by_cases hc2 : c.size = 2
    · have c0 : ((((c.size : Nat) : Int)) != 2) = false := by rw [hc2]; rfl
      have c1 : decide ((1 : Int) ≤ ((c.size : Nat) : Int)) = true := decide_eq_true (by omega)
      have s1 : (c.extract 0 1).size = 1 := by rw [ByteArray.size_extract]; omega
      have s2 : (c.extract 1 c.size).size = 1 := by rw [ByteArray.size_extract]; omega
      have f1 : ref07_all (c.extract 0 1) 65 90 1 1 = some (allIn capsB (c.extract 0 1)) := by
        have h := rcaps_is (c.extract 0 1) 1 1 (by omega)
        rw [s1] at h
        have h' : ref07_all (c.extract 0 1) 65 90 1 1 = some (true && allIn capsB (c.extract 0 1)) := h
        rw [h', Bool.true_and]
      have f2 : ref07_all (c.extract 1 c.size) 97 122 1 1 = some (allIn smallsB (c.extract 1 c.size)) := by
        have h := rsmalls_is (c.extract 1 c.size) 1 1 (by omega)
        rw [s2] at h
        have h' : ref07_all (c.extract 1 c.size) 97 122 1 1 = some (true && allIn smallsB (c.extract 1 c.size)) := h
        rw [h', Bool.true_and]
      have hcat : catOK c = (allIn capsB (c.extract 0 1) && allIn smallsB (c.extract 1 c.size)) := by unfold catOK; rw [decide_eq_true hc2, Bool.true_and]
      rw [hcat]
      simp only [c0, Bool.false_eq_true, if_false, c1, if_true, f1, f2, Option.bind_some]
      generalize allIn capsB (c.extract 0 1) = x1
      generalize allIn smallsB (c.extract 1 c.size) = x2
      cases x1 <;> cases x2 <;> cases DD <;> cases J <;> cases NN <;> rfl
    · have c0 : ((((c.size : Nat) : Int)) != 2) = true := by simp; omega
      have hcat : catOK c = false := by unfold catOK; rw [decide_eq_false hc2]; rfl
      rw [hcat]
      simp only [c0, if_true]
      cases DD <;> cases J <;> cases NN <;> rfl
  simp only [ref07_Ranges_c9, e1, e2, e3, e4, e5, e6, e7, e8, if_true, g0, g1, g2, g3, rspan_is a b, hD, Option.bind_some, hwr]
  cases hS : spanOK a b
  · have ho : oneRange W acc = none := by rw [hOne, hS]; simp only [Bool.false_and, Bool.false_eq_true, if_false]
    rw [ho]
    simp only [Bool.false_eq_true, if_false, Bool.not_false, if_true]
  · simp only [if_true, Bool.not_true, Bool.false_eq_true, if_false]
    by_cases h0 : 0 < i
    · have c1 : decide ((i : Int) > 0) = true := decide_eq_true (by omega)
      have hwp : IntKind.i64.wrap ((i : Int) - 1) = ((i - 1 : Nat) : Int) := by rw [wrap_i64] <;> omega
      have c2 : decide ((0 : Int) ≤ ((i - 1 : Nat) : Int)) = true := decide_eq_true (by omega)
      have c3 : decide (((i - 1 : Nat) : Int) < (acc.length : Int)) = true := decide_eq_true (by omega)
      have c4 : decide (i - 1 < acc.length) = true := decide_eq_true (by omega)
      have hb := behind_get acc (fun e => e.2.1) ((0 : Int), ((0 : Int), (ByteArray.empty, (ByteArray.empty, (ByteArray.empty, false))))) (ptN a : Int) i ha h0
      simp only [c1, if_true, hwp, c2, c3, Bool.and_self, Int.toNat_natCast, c4]
      cases hB : decide ((acc.getD (i - 1) ((0 : Int), ((0 : Int), (ByteArray.empty, (ByteArray.empty, (ByteArray.empty, false)))))).2.1 ≥ (ptN a : Int))
      · rw [hB] at hb
        have hb' : behindI (acc.getLast?.map (fun e => e.2.1)) (ptN a) = true := hb
        have ht := tail hS hb'
        simp only [Bool.false_eq_true, if_false]
        exact ht
      · rw [hB] at hb
        have hb' : behindI (acc.getLast?.map (fun e => e.2.1)) (ptN a) = false := hb
        have ho : oneRange W acc = none := by rw [hOne, hS, hb']; simp only [Bool.and_false, Bool.false_and, Bool.false_eq_true, if_false]
        rw [ho]
        simp only [if_true]
    · have c1 : decide ((i : Int) > 0) = false := decide_eq_false (by omega)
      have hnil : acc = [] := nil_of_len (by omega)
      have hb' : behindI (acc.getLast?.map (fun e => e.2.1)) (ptN a) = true := by rw [hnil]; rfl
      have ht := tail hS hb'
      simp only [c1, Bool.false_eq_true, if_false]
      exact ht

theorem rRanges_step (L : List (List ByteArray)) (hLl : L.length ≤ 1000001) (hLw : ∀ w ∈ L, w.length ≤ 1000001 ∧ ∀ x ∈ w, x.size ≤ 1000000) (i : Nat) (acc : List (Int × Int × ByteArray × ByteArray × ByteArray × Bool)) (w : List ByteArray) (hw : L[i]? = some w) (ha : acc.length = i) (hi : i < L.length) :
    ref07_Ranges_b4 ((i : Int), L, acc) = some (stepB2 L i acc (oneRange w acc)) := by
  have hm : w ∈ L := List.mem_of_getElem? hw
  have d0 : decide ((i : Int) < (L.length : Int)) = true := decide_eq_true (by omega)
  have d1 : decide ((0 : Int) ≤ (i : Int)) = true := decide_eq_true (by omega)
  have d2 : decide (i < L.length) = true := decide_eq_true hi
  have hg : L.getD i [] = w := by rw [List.getD_eq_getElem?_getD, hw]; rfl
  have hwr : IntKind.i64.wrap ((i : Int) + 1) = ((i + 1 : Nat) : Int) := by rw [wrap_i64] <;> omega
  by_cases h6 : w.length = 6
  · obtain ⟨a, b, c, d, e, f, rfl⟩ := six h6
    have h9 := rRanges_c9 i acc L a b c d e f ha (by omega) ((hLw _ hm).2 c (by simp)) ((hLw _ hm).2 d (by simp))
    have e0 : ((([a, b, c, d, e, f].length : Nat) : Int) != 6) = false := rfl
    simp only [ref07_Ranges_b4, ref07_Ranges_c6, d0, d1, d2, Bool.and_self, if_true, Int.toNat_natCast, hg, e0, Bool.false_eq_true, if_false, h9, Option.bind_some]
    cases oneRange [a, b, c, d, e, f] acc with
    | none => rfl
    | some x => simp only [ref07_Ranges_c5, Option.bind_some, hwr, stepB2]
  · have e0 : (((w.length : Nat) : Int) != 6) = true := by simp; omega
    have ho : oneRange w acc = none := oneRange_ne acc h6
    rw [ho]
    simp only [ref07_Ranges_b4, ref07_Ranges_c6, d0, d1, d2, Bool.and_self, if_true, Int.toNat_natCast, hg, e0, hwr, Option.bind_some, stepB2]
theorem rRanges_is (s : ByteArray) (hs : s.size ≤ 1000000) : ref07_Ranges s = some (resB (readR oneRange (linesOf s) [] 0)) := by
  unfold ref07_Ranges
  rw [rlines_is s hs]
  simp only [Option.bind_some]
  have h1 := lines_len s hs
  have h2 := lines_word s hs
  generalize linesOf s = L at *
  have key := readB2_go ref07_Ranges_b4 oneRange L (fun acc => by simp [ref07_Ranges_b4]) (rRanges_step L h1 h2) L.length 0 [] (by omega) rfl
  rw [show ((0 : Nat) : Int) = 0 from rfl, List.drop_zero] at key
  rw [key]
  simp only [Option.bind_some]
  cases readR oneRange L [] 0 <;> rfl
end Go.Pc

namespace Go.Pc
open Go Go.Sx Go.Tx
def idxI (D : List Dc) (q : Dc → Bool) : Int := match D.findIdx? q with
  | some i => (i : Int)
  | none => -1
section
variable (l0 : List (Int × Int × ByteArray × ByteArray × ByteArray × Bool)) (l1 : List (Int × Int × Int)) (D : List Dc) (l3 l4 : List (Int × Int × Int)) (l5 : List (ByteArray × Int × Int))
theorem rline_loop (hl : D.length ≤ 1000000) (p : Int) (c : Bool) : ∀ (n i : Nat), n + i = D.length → runLoop ref08_Tables_Line_b2 (p, c, (i : Int), l0, l1, D, l3, l4, l5) = some (match (D.drop i).findIdx? (hit p c) with
    | some j => .inl (((i + j : Nat) : Int), l0, l1, D, l3, l4, l5)
    | none => .inr (l0, l1, D, l3, l4, l5)) := by
  intro n
  induction n with
  | zero =>
    intro i h1
    have : i = D.length := by omega
    subst this
    have d0 : decide ((D.length : Int) < (D.length : Int)) = false := decide_eq_false (by omega)
    rw [runLoop_done (x := .inr (l0, l1, D, l3, l4, l5)) (by simp only [ref08_Tables_Line_b2, d0, Bool.false_eq_true, if_false]), List.drop_length]
    rfl
  | succ n ih =>
    intro i h1
    have hi : i < D.length := by omega
    have d0 : decide ((i : Int) < (D.length : Int)) = true := decide_eq_true (by omega)
    have d1 : decide ((0 : Int) ≤ (i : Int)) = true := decide_eq_true (by omega)
    have d2 : decide (i < D.length) = true := decide_eq_true hi
    have hg : D.getD i ((0 : Int), ([], (false, false))) = D[i] := by simp [List.getD, List.getElem?_eq_getElem hi]
    have hw : IntKind.i64.wrap ((i : Int) + 1) = ((i + 1 : Nat) : Int) := by rw [wrap_i64] <;> omega
    rw [List.drop_eq_getElem_cons hi, List.findIdx?_cons]
    by_cases h : hit p c D[i] = true
    · rw [if_pos h]
      have hh := h
      unfold hit at hh
      simp only [Bool.and_eq_true, beq_iff_eq] at hh
      have e1 : decide (D[i].1 = p) = true := decide_eq_true hh.1
      refine runLoop_done (x := Sum.inl (((i + 0 : Nat) : Int), l0, l1, D, l3, l4, l5)) ?_
      cases c
      · have e2 : D[i].2.2.1 = false := by simpa using hh.2
        simp only [ref08_Tables_Line_b2, d0, d1, d2, Bool.and_self, if_true, Int.toNat_natCast, hg, e1, Bool.false_eq_true, if_false, e2, Bool.not_false, Nat.add_zero]
      · simp only [ref08_Tables_Line_b2, d0, d1, d2, Bool.and_self, if_true, Int.toNat_natCast, hg, e1, Nat.add_zero]
    · rw [if_neg h]
      have hstep : ref08_Tables_Line_b2 (p, c, (i : Int), l0, l1, D, l3, l4, l5) = some (.inl (p, c, ((i + 1 : Nat) : Int), l0, l1, D, l3, l4, l5)) := by
        by_cases hp : D[i].1 = p
        · have e1 : decide (D[i].1 = p) = true := decide_eq_true hp
          have hc : (c || !D[i].2.2.1) = false := by
            have : ¬ (c || !D[i].2.2.1) = true := fun e => h (by unfold hit; rw [hp, e]; simp)
            simpa using this
          cases c
          · have e2 : D[i].2.2.1 = true := by simpa using hc
            simp only [ref08_Tables_Line_b2, d0, d1, d2, Bool.and_self, if_true, Int.toNat_natCast, hg, e1, Bool.false_eq_true, if_false, e2, Bool.not_true, hw]
          · simp at hc
        · have e1 : decide (D[i].1 = p) = false := decide_eq_false hp
          simp only [ref08_Tables_Line_b2, d0, d1, d2, Bool.and_self, if_true, Int.toNat_natCast, hg, e1, Bool.false_eq_true, if_false, hw]
      rw [runLoop_step hstep, ih (i + 1) (by omega)]
      cases List.findIdx? (hit p c) (D.drop (i + 1)) with
      | none => rfl
      | some j =>
        simp only [Option.map_some]
        rw [show i + 1 + j = i + (j + 1) from by omega]
theorem rline_is (hl : D.length ≤ 1000000) (p : Int) (c : Bool) : ref08_Tables_Line p c l0 l1 D l3 l4 l5 = some (idxI D (hit p c), l0, l1, D, l3, l4, l5) := by
  unfold ref08_Tables_Line idxI
  have h := rline_loop l0 l1 D l3 l4 l5 hl p c D.length 0 (by omega)
  have h' : runLoop ref08_Tables_Line_b2 (p, c, (0 : Int), l0, l1, D, l3, l4, l5) = _ := h
  rw [h', List.drop_zero]
  cases List.findIdx? (hit p c) D with
  | none => rfl
  | some j => simp only [Option.bind_some, Nat.zero_add]

end
end Go.Pc
