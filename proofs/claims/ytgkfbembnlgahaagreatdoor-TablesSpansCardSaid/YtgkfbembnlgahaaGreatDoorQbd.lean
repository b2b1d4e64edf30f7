/- Part 30 of the proof of the statement that the last part names; it asks for no condition of its own. Here: PcPoint, PcSplit, PcRead, PcRead2, PcFull. -/
import Derived.Test.YtgkfbembnlgahaaGreatDoorQba
import Derived.Laws.Bits64
import Derived.Test.YtgkfbembnlgahaaGreatDoorQae
import Derived.Lib.SplitLaws
import Derived.Test.YtgkfbembnlgahaaGreatDoorQao
set_option linter.unusedVariables false
set_option linter.unusedSimpArgs false
set_option maxRecDepth 100000
namespace Go.Pc
open Go Go.Sx Go.Tx
def hexD (b : UInt8) : Prop := (48 ≤ b.toNat ∧ b.toNat ≤ 57) ∨ (65 ≤ b.toNat ∧ b.toNat ≤ 70)
def hexV (b : UInt8) : Nat := if b.toNat ≤ 57 then b.toNat - 48 else b.toNat - 55
def hexN (l : List UInt8) : Nat := l.foldl (fun n b => n * 16 + hexV b) 0

theorem hexV_lt {b : UInt8} (h : hexD b) : hexV b < 16 := by
  unfold hexV
  rcases h with h | h
  · rw [if_pos h.2]; omega
  · rw [if_neg (by omega)]; omega

theorem hexN_lt (l : List UInt8) (h : ∀ b ∈ l, hexD b) : hexN l < 16 ^ l.length := by
  have key : ∀ (l : List UInt8) (a k : Nat), (∀ b ∈ l, hexD b) → a < 16 ^ k → l.foldl (fun n b => n * 16 + hexV b) a < 16 ^ (k + l.length) := by
    intro l
    induction l with
    | nil => intro a k _ ha; exact ha
    | cons b r ih =>
      intro a k h ha
      rw [List.foldl_cons, List.length_cons, Nat.add_comm r.length 1, ← Nat.add_assoc]
      refine ih _ (k + 1) (fun b hb => h b (by simp [hb])) ?_
      have := hexV_lt (h b (by simp))
      rw [Nat.pow_succ]
      omega
  have := key l 0 0 h (by simp)
  rwa [Nat.zero_add] at this

def digitsB : ByteArray := ⟨#[48, 49, 50, 51, 52, 53, 54, 55, 56, 57, 65, 66, 67, 68, 69, 70]⟩
def isPt (s : ByteArray) : Bool := decide (4 ≤ s.size) && decide (s.size ≤ 6) && allIn digitsB s && !(decide (4 < s.size) && (s.data.toList.getD 0 0 == 48))
def ptN (s : ByteArray) : Nat := if isPt s then hexN s.data.toList else 0
def ptOK (s : ByteArray) : Bool := isPt s && decide (hexN s.data.toList ≤ 1114111)

theorem low_digits : Low digitsB := by unfold Low digitsB; decide
theorem hexD_of {s : ByteArray} (h : allIn digitsB s = true) : ∀ b ∈ s.data.toList, hexD b := by
  intro b hb
  unfold allIn at h
  rw [List.all_eq_true] at h
  have := h b hb
  unfold digitsB at this
  simp at this
  unfold hexD
  rcases this with h | h | h | h | h | h | h | h | h | h | h | h | h | h | h | h <;> subst h <;> decide


theorem lower_is (c : Nat) (h1 : 65 ≤ c) (h2 : c ≤ 70) : internal_strconv_lower (c : Int) = some ((c : Int) + 32) := by
  have : c = 65 ∨ c = 66 ∨ c = 67 ∨ c = 68 ∨ c = 69 ∨ c = 70 := by omega
  rcases this with rfl | rfl | rfl | rfl | rfl | rfl <;> decide

theorem getD_map_toNat (L : List UInt8) (i : Nat) (b : UInt8) (h : L[i]? = some b) : (L.map (fun x : UInt8 => ((x.toNat : Nat) : Int))).getD i 0 = (b.toNat : Int) := by
  rw [List.getD_eq_getElem?_getD, List.getElem?_map, h]; rfl

theorem parse_loop (s : ByteArray) (h2 : s.size ≤ 6) (h3 : ∀ b ∈ s.data.toList, hexD b) :
    runLoop internal_strconv_ParseUint_b36 (false, s, false, 0, ((s.data.toList.map (fun x : UInt8 => ((x.toNat : Nat) : Int))).length : Int), 0, s.data.toList.map (fun x : UInt8 => ((x.toNat : Nat) : Int))) = some (.inr (s, false, (hexN s.data.toList : Int))) := by
  have hsz : s.data.toList.length = s.size := Array.length_toList
  generalize hL : s.data.toList = L at *
  have hlen : (L.map (fun x : UInt8 => ((x.toNat : Nat) : Int))).length = L.length := List.length_map _
  refine runLoop_to (fun i : Nat => i ≤ L.length) (fun i : Nat => (false, s, false, ((hexN (L.take i) : Nat) : Int), ((L.map (fun x : UInt8 => ((x.toNat : Nat) : Int))).length : Int), (i : Int), L.map (fun x : UInt8 => ((x.toNat : Nat) : Int)))) (fun i => L.length - i) _ ?_ 0 (Nat.zero_le _)
  intro i hi
  by_cases hlt : i < L.length
  · left
    refine ⟨i + 1, ?_, hlt, by omega⟩
    obtain ⟨b, hb⟩ : ∃ b, L[i]? = some b := ⟨_, List.getElem?_eq_getElem hlt⟩
    have hbd := h3 b (List.mem_of_getElem? hb)
    have hn : hexN (L.take i) ≤ 1048575 := by
      have := hexN_lt (L.take i) (fun b hb => h3 b (List.mem_of_mem_take hb))
      have hl : (L.take i).length ≤ 5 := by rw [List.length_take]; omega
      have : 16 ^ (L.take i).length ≤ 16 ^ 5 := Nat.pow_le_pow_right (by omega) hl
      omega
    have hst : hexN (L.take (i + 1)) = hexN (L.take i) * 16 + hexV b := by
      rw [List.take_add_one, hb]
      simp [hexN]
    rw [hst]
    generalize hexN (L.take i) = n at *
    have w1 : IntKind.u8.wrap 16 = 16 := by decide
    have w2 : IntKind.u64.wrap 16 = 16 := by decide
    have w3 : IntKind.u64.wrap ((n : Int) * 16) = n * 16 := by rw [IntKind.wrap_u64]; omega
    have w4 : IntKind.i64.wrap ((i : Int) + 1) = ((i + 1 : Nat) : Int) := by rw [wrap_i64] <;> omega
    have d0 : decide ((i : Int) < (L.length : Int)) = true := decide_eq_true (by omega)
    have d1 : decide ((0 : Int) ≤ (i : Int)) = true := decide_eq_true (by omega)
    have d2 : decide ((n : Int) ≥ 1152921504606846976) = false := decide_eq_false (by omega)
    have g := getD_map_toNat L i b hb
    rcases hbd with ⟨e1, e2⟩ | ⟨e1, e2⟩
    · have hv : hexV b = b.toNat - 48 := by unfold hexV; rw [if_pos e2]
      have w5 : IntKind.u8.wrap ((b.toNat : Int) - 48) = ((b.toNat - 48 : Nat) : Int) := by rw [IntKind.wrap_u8]; omega
      have w6 : IntKind.u64.wrap ((b.toNat - 48 : Nat) : Int) = ((b.toNat - 48 : Nat) : Int) := by rw [IntKind.wrap_u64]; omega
      have w7 : IntKind.u64.wrap ((n : Int) * 16 + ((b.toNat - 48 : Nat) : Int)) = ((n * 16 + (b.toNat - 48) : Nat) : Int) := by rw [IntKind.wrap_u64]; omega
      have c1 : decide ((b.toNat : Int) = 95) = false := decide_eq_false (by omega)
      have c2 : decide ((48 : Int) ≤ b.toNat) = true := decide_eq_true (by omega)
      have c3 : decide ((b.toNat : Int) ≤ 57) = true := decide_eq_true (by omega)
      have c4 : decide (((b.toNat - 48 : Nat) : Int) ≥ 16) = false := decide_eq_false (by omega)
      have c5 : decide (((n * 16 + (b.toNat - 48) : Nat) : Int) < (n : Int) * 16) = false := decide_eq_false (by omega)
      have c6 : decide (((n * 16 + (b.toNat - 48) : Nat) : Int) > 4294967295) = false := decide_eq_false (by omega)
      simp only [internal_strconv_ParseUint_b36, hlen, d0, d1, Int.toNat_natCast, decide_eq_true hlt, Bool.and_self, if_true, g, c1, Bool.false_eq_true, if_false, c2, c3, w1, w2, w3, w4, w5, w6, w7, c4, d2, c5, c6, hv]
    · have hv : hexV b = b.toNat - 55 := by unfold hexV; rw [if_neg (by omega)]
      have lw := lower_is b.toNat e1 e2
      have w5 : IntKind.u8.wrap ((b.toNat : Int) + 32 - 97) = ((b.toNat - 65 : Nat) : Int) := by rw [IntKind.wrap_u8]; omega
      have w6 : IntKind.u8.wrap (((b.toNat - 65 : Nat) : Int) + 10) = ((b.toNat - 55 : Nat) : Int) := by rw [IntKind.wrap_u8]; omega
      have w8 : IntKind.u64.wrap ((b.toNat - 55 : Nat) : Int) = ((b.toNat - 55 : Nat) : Int) := by rw [IntKind.wrap_u64]; omega
      have w7 : IntKind.u64.wrap ((n : Int) * 16 + ((b.toNat - 55 : Nat) : Int)) = ((n * 16 + (b.toNat - 55) : Nat) : Int) := by rw [IntKind.wrap_u64]; omega
      have c1 : decide ((b.toNat : Int) = 95) = false := decide_eq_false (by omega)
      have c2 : decide ((48 : Int) ≤ b.toNat) = true := decide_eq_true (by omega)
      have c3 : decide ((b.toNat : Int) ≤ 57) = false := decide_eq_false (by omega)
      have c4 : decide (((b.toNat - 55 : Nat) : Int) ≥ 16) = false := decide_eq_false (by omega)
      have c5 : decide (((n * 16 + (b.toNat - 55) : Nat) : Int) < (n : Int) * 16) = false := decide_eq_false (by omega)
      have c6 : decide (((n * 16 + (b.toNat - 55) : Nat) : Int) > 4294967295) = false := decide_eq_false (by omega)
      have c7 : decide ((97 : Int) ≤ (b.toNat : Int) + 32) = true := decide_eq_true (by omega)
      have c8 : decide ((b.toNat : Int) + 32 ≤ 122) = true := decide_eq_true (by omega)
      simp only [internal_strconv_ParseUint_b36, hlen, d0, d1, Int.toNat_natCast, decide_eq_true hlt, Bool.and_self, if_true, g, c1, Bool.false_eq_true, if_false, c2, c3, lw, Option.bind_some, c7, c8, w1, w2, w3, w4, w5, w6, w7, w8, c4, d2, c5, c6, hv]
  · right
    have : i = L.length := by omega
    subst this
    have d0 : decide ((L.length : Int) < (L.length : Int)) = false := decide_eq_false (by omega)
    simp only [internal_strconv_ParseUint_b36, hlen, d0, Bool.false_eq_true, if_false]
    rw [List.take_of_length_le (Nat.le_refl _)]

theorem parse_is (s : ByteArray) (h1 : 1 ≤ s.size) (h2 : s.size ≤ 6) (h3 : ∀ b ∈ s.data.toList, hexD b) : strconv_ParseUint s = some (hexN s.data.toList : Int) := by
  have hsz : s.data.toList.length = s.size := Array.length_toList
  have hne : List.beq (ByteArray.toList s) (ByteArray.toList (ByteArray.mk (List.toArray []))) = false := by
    rw [ByteArray.toList_eq, ByteArray.toList_eq]
    cases hq : s.data.toList with
    | nil => rw [hq] at hsz; simp at hsz; omega
    | cons x r => rfl
  unfold strconv_ParseUint internal_strconv_ParseUint
  simp only [hne, Bool.false_eq_true, if_false, decide_eq_true (by omega : s.size ≤ 9223372036854775807), if_true]
  rw [parse_loop s h2 h3]
  rfl

theorem digits_eq : (ByteArray.mk (List.toArray [(48 : UInt8), (49 : UInt8), (50 : UInt8), (51 : UInt8), (52 : UInt8), (53 : UInt8), (54 : UInt8), (55 : UInt8), (56 : UInt8), (57 : UInt8), (65 : UInt8), (66 : UInt8), (67 : UInt8), (68 : UInt8), (69 : UInt8), (70 : UInt8)])) = digitsB := rfl

theorem point_is (s : ByteArray) (hs : s.size ≤ 9223372036854775807) : chart_point s = some ((ptN s : Int), ptOK s) := by
  unfold chart_point
  rw [digits_eq, made_is s digitsB 4 6 low_digits hs]
  simp only [Option.bind_some]
  by_cases hm : (decide ((4 : Int) ≤ (s.size : Int)) && decide ((s.size : Int) ≤ 6) && allIn digitsB s) = true
  · have hm' := hm
    simp only [Bool.and_eq_true, decide_eq_true_eq] at hm'
    obtain ⟨⟨h4, h6⟩, ha⟩ := hm'
    have hx := hexD_of ha
    have hb : hexN s.data.toList < 16 ^ 6 := by
      have h1 := hexN_lt s.data.toList hx
      have h2 : s.data.toList.length = s.size := Array.length_toList
      have : 16 ^ s.data.toList.length ≤ 16 ^ 6 := Nat.pow_le_pow_right (by omega) (by omega)
      omega
    have hu : IntKind.u32.wrap (hexN s.data.toList : Int) = hexN s.data.toList := by rw [IntKind.wrap_u32]; omega
    have hp := parse_is s (by omega) (by omega) hx
    have hle : decide ((hexN s.data.toList : Int) ≤ 1114111) = decide (hexN s.data.toList ≤ 1114111) := by rw [Bool.eq_iff_iff, decide_eq_true_eq, decide_eq_true_eq]; omega
    simp only [hm, Bool.not_true, Bool.false_eq_true, if_false, hp, Option.bind_some, hu, hle]
    have e4 : decide (4 ≤ s.size) = true := decide_eq_true (by omega)
    have e6 : decide (s.size ≤ 6) = true := decide_eq_true (by omega)
    by_cases h5 : 4 < s.size
    · have g5 : decide ((s.size : Int) > 4) = true := decide_eq_true (by omega)
      have g0 : decide ((0 : Int) < (s.size : Int)) = true := decide_eq_true (by omega)
      simp only [g5, g0, if_true]
      by_cases hz : s.data.toList.getD 0 0 = 48
      · have : decide (((s.data.toList.getD 0 (0 : UInt8)).toNat : Int) = 48) = true := decide_eq_true (by show ((s.data.toList.getD 0 0).toNat : Int) = 48; rw [hz]; rfl)
        simp only [this, if_true]
        have hf : isPt s = false := by unfold isPt; rw [e4, e6, ha, decide_eq_true h5, hz]; rfl
        simp [ptN, ptOK, hf]
      · have : decide (((s.data.toList.getD 0 (0 : UInt8)).toNat : Int) = 48) = false := decide_eq_false (fun e => hz (UInt8.toNat_inj.1 (by have : (48 : UInt8).toNat = 48 := rfl; have e' : ((s.data.toList.getD 0 0).toNat : Int) = 48 := e; omega)))
        simp only [this, Bool.false_eq_true, if_false]
        have hf : isPt s = true := by unfold isPt; rw [e4, e6, ha, decide_eq_true h5]; simp; simpa using hz
        simp [ptN, ptOK, hf]
    · have g5 : decide ((s.size : Int) > 4) = false := decide_eq_false (by omega)
      simp only [g5, Bool.false_eq_true, if_false]
      have hf : isPt s = true := by unfold isPt; rw [e4, e6, ha, decide_eq_false h5]; rfl
      simp [ptN, ptOK, hf]
  · have hm0 : (decide ((4 : Int) ≤ (s.size : Int)) && decide ((s.size : Int) ≤ 6) && allIn digitsB s) = false := by simpa using hm
    simp only [hm0, Bool.not_false, if_true]
    have hf : isPt s = false := by
      unfold isPt
      have e4 : decide (4 ≤ s.size) = decide ((4 : Int) ≤ (s.size : Int)) := by rw [Bool.eq_iff_iff, decide_eq_true_eq, decide_eq_true_eq]; omega
      have e6 : decide (s.size ≤ 6) = decide ((s.size : Int) ≤ 6) := by rw [Bool.eq_iff_iff, decide_eq_true_eq, decide_eq_true_eq]; omega
      rw [e4, e6, hm0]; rfl
    simp [ptN, ptOK, hf]

def spanOK (a b : ByteArray) : Bool := ptOK a && ptOK b && decide (ptN a ≤ ptN b)
theorem span_is (a b : ByteArray) (ha : a.size ≤ 9223372036854775807) (hb : b.size ≤ 9223372036854775807) : chart_span a b = some (spanOK a b, (ptN a : Int), (ptN b : Int)) := by
  unfold chart_span
  rw [point_is a ha, point_is b hb]
  simp only [Option.bind_some]
  have e : decide ((ptN a : Int) ≤ (ptN b : Int)) = decide (ptN a ≤ ptN b) := by rw [Bool.eq_iff_iff, decide_eq_true_eq, decide_eq_true_eq]; omega
  unfold spanOK
  cases ptOK a <;> cases ptOK b <;> simp [e]
end Go.Pc

namespace Go.Pc
open Go Go.Sx Go.Tx
def spl (c : UInt8) : List UInt8 → List (List UInt8)
  | [] => [[]]
  | b :: r => if b = c then [] :: spl c r else match spl c r with
    | [] => [[b]]
    | w :: ws => (b :: w) :: ws

theorem spl_ne (c : UInt8) : ∀ l, spl c l ≠ []
  | [] => by simp [spl]
  | b :: r => by
    unfold spl
    split
    · simp
    · split <;> simp

theorem splitK_spl (c : UInt8) : ∀ s : List UInt8, Lib.splitK [c] 0 (Lib.count s [c]) s = spl c s
  | [] => by rw [Lib.count_one]; rfl
  | b :: l => by
    have ih := splitK_spl c l
    by_cases h : b = c
    · subst h
      have hix : Lib.index (b :: l) [b] = ((0 : Nat) : Int) := by rw [Lib.index]; simp [List.isPrefixOf]
      rw [Lib.count_cons_eq, Nat.add_comm 1, Lib.splitK, if_neg (by rw [hix]; simp), hix, spl, if_pos rfl]
      simpa using ih
    · rw [Lib.count_cons_ne b c l h, spl, if_neg h, ← ih]
      have hp : ([c] : List UInt8).isPrefixOf (b :: l) = false := by simp [List.isPrefixOf, Ne.symm h]
      have hix : Lib.index (b :: l) [c] = if Lib.index l [c] == -1 then -1 else Lib.index l [c] + 1 := by rw [Lib.index, hp]; simp
      generalize Lib.count l [c] = k
      cases k with
      | zero => rfl
      | succ k =>
        by_cases hm : Lib.index l [c] = -1
        · rw [Lib.splitK, Lib.splitK, if_pos (by rw [hix, hm]; rfl), if_pos (by rw [hm]; rfl)]
        · have hge := Lib.index_ge l [c]
          obtain ⟨j, hj⟩ : ∃ j : Nat, Lib.index l [c] = j := ⟨(Lib.index l [c]).toNat, by omega⟩
          have hix' : Lib.index (b :: l) [c] = ((j + 1 : Nat) : Int) := by rw [hix, if_neg (fun e => hm (beq_iff_eq.1 e)), hj]; omega
          have n1 : ¬ ((Lib.index (b :: l) [c] == -1) = true) := fun e => by have := beq_iff_eq.1 e; omega
          have n2 : ¬ ((Lib.index l [c] == -1) = true) := fun e => by have := beq_iff_eq.1 e; omega
          rw [Lib.splitK, Lib.splitK, if_neg n1, if_neg n2, hix', hj]
          simp only [Int.toNat_natCast, Nat.add_zero, List.length_cons, List.length_nil, List.take_succ_cons, Nat.zero_add]
          rw [show j + 1 + 1 = (j + 1) + 1 from rfl, List.drop_succ_cons]

def spB (c : UInt8) (s : ByteArray) : List ByteArray := (spl c s.data.toList).map (fun l => ⟨l.toArray⟩)

theorem bytes_of (s : ByteArray) : (⟨s.data.toList.toArray⟩ : ByteArray) = s := by cases s; simp

theorem splitB_spl (c : UInt8) (s : ByteArray) : Lib.splitB ⟨#[c]⟩ 0 (Lib.countB s ⟨#[c]⟩) s = spB c s := by
  have h := Lib.splitB_data ⟨#[c]⟩ 0 (Lib.countB s ⟨#[c]⟩) s
  have h2 : Lib.countB s ⟨#[c]⟩ = Lib.count s.data.toList [c] := rfl
  have h3 := splitK_spl c s.data.toList
  unfold spB
  rw [← h3, ← h2, ← h, List.map_map]
  conv => lhs; rw [← List.map_id (Lib.splitB _ _ _ _)]
  apply List.map_congr_left
  intro x _
  simp [bytes_of]

theorem split_is (c : UInt8) (s : ByteArray) (h : s.size < 4294967281) : strings_Split s (ByteArray.mk (List.toArray [c])) = some (spB c s) := by
  have : (1 : Nat) ≤ (ByteArray.mk (List.toArray [c])).size := by simp [ByteArray.size]
  rw [strings_Split, if_pos ⟨h, this⟩]
  exact congrArg some (splitB_spl c s)

theorem spl_len (c : UInt8) : ∀ s : List UInt8, (spl c s).length ≤ s.length + 1
  | [] => by simp [spl]
  | b :: r => by
    have := spl_len c r
    unfold spl
    split
    · simp; omega
    · split
      · simp
      · rename_i h; rw [h] at this; simp at this ⊢; omega

theorem spl_word (c : UInt8) : ∀ (s : List UInt8) (w), w ∈ spl c s → w.length ≤ s.length
  | [], w, h => by simp [spl] at h; subst h; simp
  | b :: r, w, h => by
    unfold spl at h
    split at h
    · rcases List.mem_cons.1 h with rfl | h
      · simp
      · have := spl_word c r w h; simp; omega
    · split at h
      · simp at h; subst h; simp
      · rename_i w' ws e
        rcases List.mem_cons.1 h with rfl | h
        · have := spl_word c r w' (by rw [e]; simp); simp; omega
        · have := spl_word c r w (by rw [e]; simp [h]); simp; omega

theorem spB_len (c : UInt8) (s : ByteArray) : (spB c s).length ≤ s.size + 1 := by
  have := spl_len c s.data.toList
  rw [spB, List.length_map]
  rwa [Array.length_toList] at this
theorem spB_word (c : UInt8) (s w : ByteArray) (h : w ∈ spB c s) : w.size ≤ s.size := by
  obtain ⟨l, hl, rfl⟩ := List.mem_map.1 h
  have := spl_word c s.data.toList l hl
  rw [Array.length_toList] at this
  show l.toArray.size ≤ s.data.size
  rwa [List.size_toArray]
end Go.Pc

namespace Go.Pc
open Go Go.Sx Go.Tx
def readR {T : Type} (one : List ByteArray → List T → Option T) : List (List ByteArray) → List T → Nat → List T ⊕ Nat
  | [], acc, _ => .inl acc
  | w :: r, acc, i => match one w acc with
    | none => .inr (i + 1)
    | some x => readR one r (acc ++ [x]) (i + 1)
def linesOf (s : ByteArray) : List (List ByteArray) := if s.size = 0 then [] else (spB 10 s).map (spB 32)
def resR {T : Type} (r : List T ⊕ Nat) : Int × Int × List T := match r with
  | .inl l => (0, 0, l)
  | .inr k => (3, (k : Int), [])
def outR {T : Type} (r : List T ⊕ Nat) : List T ⊕ (Int × Int) := match r with
  | .inl l => .inl l
  | .inr k => .inr (3, (k : Int))

theorem beq_nil (s : ByteArray) : List.beq (ByteArray.toList s) (ByteArray.toList (ByteArray.mk (List.toArray []))) = decide (s.size = 0) := by
  have hsz : s.data.toList.length = s.size := Array.length_toList
  rw [ByteArray.toList_eq, ByteArray.toList_eq]
  cases hq : s.data.toList with
  | nil => rw [hq] at hsz; simp at hsz; rw [decide_eq_true hsz.symm]; rfl
  | cons x r => rw [hq] at hsz; simp at hsz; rw [decide_eq_false (by omega)]; rfl

theorem read_go {T : Type} (b : Int × Int × List ByteArray × List T → Option ((Int × Int × List ByteArray × List T) ⊕ (List T ⊕ (Int × Int)))) (one : List ByteArray → List T → Option T) (L : List ByteArray)
    (hend : ∀ acc, b ((L.length : Int), (L.length : Int), L, acc) = some (.inr (.inl acc)))
    (hstep : ∀ (i : Nat) (acc : List T) (w : ByteArray), L[i]? = some w → acc.length = i → i < L.length → b ((L.length : Int), (i : Int), L, acc) = some (match one (spB 32 w) acc with
      | none => .inr (.inr (3, ((i + 1 : Nat) : Int)))
      | some x => .inl ((L.length : Int), ((i + 1 : Nat) : Int), L, acc ++ [x]))) :
    ∀ (n i : Nat) (acc : List T), n + i = L.length → acc.length = i → runLoop b ((L.length : Int), (i : Int), L, acc) = some (outR (readR one ((L.drop i).map (spB 32)) acc i)) := by
  intro n
  induction n with
  | zero =>
    intro i acc h1 h2
    have : i = L.length := by omega
    subst this
    rw [runLoop_done (hend acc), List.drop_length]; rfl
  | succ n ih =>
    intro i acc h1 h2
    have hi : i < L.length := by omega
    have hs := hstep i acc L[i] (List.getElem?_eq_getElem hi) h2 hi
    rw [List.drop_eq_getElem_cons hi, List.map_cons]
    unfold readR
    cases ho : one (spB 32 L[i]) acc with
    | none => rw [ho] at hs; rw [runLoop_done hs]; rfl
    | some x => rw [ho] at hs; rw [runLoop_step hs]; exact ih (i + 1) (acc ++ [x]) (by omega) (by simp [h2])

def behindI (e : Option Int) (f : Int) : Bool := match e with
  | none => true
  | some x => decide (x < f)
theorem last_cases {T : Type} (l : List T) : l = [] ∨ ∃ i x, l = i ++ [x] := by
  rcases List.eq_nil_or_concat l with h | ⟨i, x, h⟩
  · exact .inl h
  · exact .inr ⟨i, x, by rw [h, List.concat_eq_append]⟩
theorem getD_lst {T : Type} (i : List T) (x d : T) : (i ++ [x]).getD i.length d = x := by simp [List.getD]
theorem behindWeight_is (x y : Int) (l : List (Int × Int × Int)) (h : l.length ≤ 1000000) : chart_behind_Weight x y l = some (behindI (l.getLast?.map (fun e => e.2.1)) x, l) := by
  rcases last_cases l with rfl | ⟨i, e, rfl⟩
  · rfl
  · have hl : (i ++ [e]).length = i.length + 1 := by simp
    have hw : IntKind.i64.wrap ((((i ++ [e]).length : Nat) : Int) - 1) = (i.length : Int) := by rw [hl] at h ⊢; rw [wrap_i64] <;> omega
    have h0 : decide ((((i ++ [e]).length : Nat) : Int) = 0) = false := decide_eq_false (by rw [hl]; omega)
    have h1 : decide ((0 : Int) ≤ (i.length : Int)) = true := decide_eq_true (by omega)
    have h2 : decide ((i.length : Int) < (((i ++ [e]).length : Nat) : Int)) = true := decide_eq_true (by rw [hl]; omega)
    have h3 : decide (i.length < (i ++ [e]).length) = true := decide_eq_true (by rw [hl]; omega)
    unfold chart_behind_Weight
    simp only [h0, Bool.false_eq_true, if_false, hw, h1, h2, Bool.and_self, if_true, Int.toNat_natCast, h3, getD_lst, chart_Classes_1_1, Option.bind_some, List.getLast?_concat, Option.map_some, behindI]
theorem spannedWeight_ne (n : Int) (w : List ByteArray) (l : List (Int × Int × Int)) (h : (w.length : Int) ≠ n) : chart_spanned_Weight n w l = some (false, 0, 0, w, l) := by
  unfold chart_spanned_Weight
  have : (((w.length : Nat) : Int) != n) = true := by simpa using h
  simp only [this, if_true]
theorem spannedWeight_eq (n : Int) (a b : ByteArray) (r : List ByteArray) (l : List (Int × Int × Int)) (h : ((a :: b :: r).length : Int) = n) (ha : a.size ≤ 1000000) (hb : b.size ≤ 1000000) (hl : l.length ≤ 1000000) :
    chart_spanned_Weight n (a :: b :: r) l = some (spanOK a b && behindI (l.getLast?.map (fun e => e.2.1)) (ptN a), (ptN a : Int), (ptN b : Int), a :: b :: r, l) := by
  unfold chart_spanned_Weight
  have h0 : ((((a :: b :: r).length : Nat) : Int) != n) = false := by simpa using h
  have h1 : decide ((0 : Int) < (((a :: b :: r).length : Nat) : Int)) = true := decide_eq_true (by simp only [List.length_cons]; omega)
  have h2 : decide (0 < (a :: b :: r).length) = true := decide_eq_true (by simp only [List.length_cons]; omega)
  have h3 : decide ((1 : Int) < (((a :: b :: r).length : Nat) : Int)) = true := decide_eq_true (by simp only [List.length_cons]; omega)
  have h4 : decide (1 < (a :: b :: r).length) = true := decide_eq_true (by simp only [List.length_cons]; omega)
  have e0 : (a :: b :: r).getD 0 ByteArray.empty = a := rfl
  have e1 : (a :: b :: r).getD 1 ByteArray.empty = b := rfl
  simp only [h0, Bool.false_eq_true, if_false, h1, h2, h3, h4, if_true, e0, e1, span_is a b (by omega) (by omega), Option.bind_some]
  cases spanOK a b
  · simp
  · simp [behindWeight_is _ _ l hl]

theorem behindRun_is (x y : Int) (l : List (Int × Int × Int)) (h : l.length ≤ 1000000) : chart_behind_Run x y l = some (behindI (l.getLast?.map (fun e => e.2.1)) x, l) := by
  rcases last_cases l with rfl | ⟨i, e, rfl⟩
  · rfl
  · have hl : (i ++ [e]).length = i.length + 1 := by simp
    have hw : IntKind.i64.wrap ((((i ++ [e]).length : Nat) : Int) - 1) = (i.length : Int) := by rw [hl] at h ⊢; rw [wrap_i64] <;> omega
    have h0 : decide ((((i ++ [e]).length : Nat) : Int) = 0) = false := decide_eq_false (by rw [hl]; omega)
    have h1 : decide ((0 : Int) ≤ (i.length : Int)) = true := decide_eq_true (by omega)
    have h2 : decide ((i.length : Int) < (((i ++ [e]).length : Nat) : Int)) = true := decide_eq_true (by rw [hl]; omega)
    have h3 : decide (i.length < (i ++ [e]).length) = true := decide_eq_true (by rw [hl]; omega)
    unfold chart_behind_Run
    simp only [h0, Bool.false_eq_true, if_false, hw, h1, h2, Bool.and_self, if_true, Int.toNat_natCast, h3, getD_lst, chart_Runs_1_1, Option.bind_some, List.getLast?_concat, Option.map_some, behindI]
theorem spannedRun_ne (n : Int) (w : List ByteArray) (l : List (Int × Int × Int)) (h : (w.length : Int) ≠ n) : chart_spanned_Run n w l = some (false, 0, 0, w, l) := by
  unfold chart_spanned_Run
  have : (((w.length : Nat) : Int) != n) = true := by simpa using h
  simp only [this, if_true]
theorem spannedRun_eq (n : Int) (a b : ByteArray) (r : List ByteArray) (l : List (Int × Int × Int)) (h : ((a :: b :: r).length : Int) = n) (ha : a.size ≤ 1000000) (hb : b.size ≤ 1000000) (hl : l.length ≤ 1000000) :
    chart_spanned_Run n (a :: b :: r) l = some (spanOK a b && behindI (l.getLast?.map (fun e => e.2.1)) (ptN a), (ptN a : Int), (ptN b : Int), a :: b :: r, l) := by
  unfold chart_spanned_Run
  have h0 : ((((a :: b :: r).length : Nat) : Int) != n) = false := by simpa using h
  have h1 : decide ((0 : Int) < (((a :: b :: r).length : Nat) : Int)) = true := decide_eq_true (by simp only [List.length_cons]; omega)
  have h2 : decide (0 < (a :: b :: r).length) = true := decide_eq_true (by simp only [List.length_cons]; omega)
  have h3 : decide ((1 : Int) < (((a :: b :: r).length : Nat) : Int)) = true := decide_eq_true (by simp only [List.length_cons]; omega)
  have h4 : decide (1 < (a :: b :: r).length) = true := decide_eq_true (by simp only [List.length_cons]; omega)
  have e0 : (a :: b :: r).getD 0 ByteArray.empty = a := rfl
  have e1 : (a :: b :: r).getD 1 ByteArray.empty = b := rfl
  simp only [h0, Bool.false_eq_true, if_false, h1, h2, h3, h4, if_true, e0, e1, span_is a b (by omega) (by omega), Option.bind_some]
  cases spanOK a b
  · simp
  · simp [behindRun_is _ _ l hl]

theorem behindRange_is (x y : Int) (l : List (Int × Int × ByteArray × ByteArray × ByteArray × Bool)) (h : l.length ≤ 1000000) : chart_behind_Range x y l = some (behindI (l.getLast?.map (fun e => e.2.1)) x, l) := by
  rcases last_cases l with rfl | ⟨i, e, rfl⟩
  · rfl
  · have hl : (i ++ [e]).length = i.length + 1 := by simp
    have hw : IntKind.i64.wrap ((((i ++ [e]).length : Nat) : Int) - 1) = (i.length : Int) := by rw [hl] at h ⊢; rw [wrap_i64] <;> omega
    have h0 : decide ((((i ++ [e]).length : Nat) : Int) = 0) = false := decide_eq_false (by rw [hl]; omega)
    have h1 : decide ((0 : Int) ≤ (i.length : Int)) = true := decide_eq_true (by omega)
    have h2 : decide ((i.length : Int) < (((i ++ [e]).length : Nat) : Int)) = true := decide_eq_true (by rw [hl]; omega)
    have h3 : decide (i.length < (i ++ [e]).length) = true := decide_eq_true (by rw [hl]; omega)
    unfold chart_behind_Range
    simp only [h0, Bool.false_eq_true, if_false, hw, h1, h2, Bool.and_self, if_true, Int.toNat_natCast, h3, getD_lst, chart_Ranges_1_1, Option.bind_some, List.getLast?_concat, Option.map_some, behindI]
theorem spannedRange_ne (n : Int) (w : List ByteArray) (l : List (Int × Int × ByteArray × ByteArray × ByteArray × Bool)) (h : (w.length : Int) ≠ n) : chart_spanned_Range n w l = some (false, 0, 0, w, l) := by
  unfold chart_spanned_Range
  have : (((w.length : Nat) : Int) != n) = true := by simpa using h
  simp only [this, if_true]
theorem spannedRange_eq (n : Int) (a b : ByteArray) (r : List ByteArray) (l : List (Int × Int × ByteArray × ByteArray × ByteArray × Bool)) (h : ((a :: b :: r).length : Int) = n) (ha : a.size ≤ 1000000) (hb : b.size ≤ 1000000) (hl : l.length ≤ 1000000) :
    chart_spanned_Range n (a :: b :: r) l = some (spanOK a b && behindI (l.getLast?.map (fun e => e.2.1)) (ptN a), (ptN a : Int), (ptN b : Int), a :: b :: r, l) := by
  unfold chart_spanned_Range
  have h0 : ((((a :: b :: r).length : Nat) : Int) != n) = false := by simpa using h
  have h1 : decide ((0 : Int) < (((a :: b :: r).length : Nat) : Int)) = true := decide_eq_true (by simp only [List.length_cons]; omega)
  have h2 : decide (0 < (a :: b :: r).length) = true := decide_eq_true (by simp only [List.length_cons]; omega)
  have h3 : decide ((1 : Int) < (((a :: b :: r).length : Nat) : Int)) = true := decide_eq_true (by simp only [List.length_cons]; omega)
  have h4 : decide (1 < (a :: b :: r).length) = true := decide_eq_true (by simp only [List.length_cons]; omega)
  have e0 : (a :: b :: r).getD 0 ByteArray.empty = a := rfl
  have e1 : (a :: b :: r).getD 1 ByteArray.empty = b := rfl
  simp only [h0, Bool.false_eq_true, if_false, h1, h2, h3, h4, if_true, e0, e1, span_is a b (by omega) (by omega), Option.bind_some]
  cases spanOK a b
  · simp
  · simp [behindRange_is _ _ l hl]

def decN (l : List UInt8) : Nat := l.foldl (fun n b => n * 10 + (b.toNat - 48)) 0
def digits10 : ByteArray := ⟨#[48, 49, 50, 51, 52, 53, 54, 55, 56, 57]⟩
theorem low10 : Low digits10 := by unfold Low digits10; decide
theorem dig_of {s : ByteArray} (h : allIn digits10 s = true) : ∀ b ∈ s.data.toList, 48 ≤ b.toNat ∧ b.toNat ≤ 57 := by
  intro b hb
  unfold allIn at h
  rw [List.all_eq_true] at h
  have := h b hb
  unfold digits10 at this
  simp at this
  rcases this with h | h | h | h | h | h | h | h | h | h <;> subst h <;> decide
theorem decN_lt (l : List UInt8) (h : ∀ b ∈ l, 48 ≤ b.toNat ∧ b.toNat ≤ 57) : decN l < 10 ^ l.length := by
  have key : ∀ (l : List UInt8) (a k : Nat), (∀ b ∈ l, 48 ≤ b.toNat ∧ b.toNat ≤ 57) → a < 10 ^ k → l.foldl (fun n b => n * 10 + (b.toNat - 48)) a < 10 ^ (k + l.length) := by
    intro l
    induction l with
    | nil => intro a k _ ha; exact ha
    | cons b r ih =>
      intro a k h ha
      rw [List.foldl_cons, List.length_cons, Nat.add_comm r.length 1, ← Nat.add_assoc]
      refine ih _ (k + 1) (fun b hb => h b (by simp [hb])) ?_
      have := h b (by simp)
      rw [Nat.pow_succ]
      omega
  have := key l 0 0 h (by simp)
  rwa [Nat.zero_add] at this
theorem atoi_loop (s : ByteArray) (h2 : s.size ≤ 3) (h3 : ∀ b ∈ s.data.toList, 48 ≤ b.toNat ∧ b.toNat ≤ 57) :
    runLoop internal_strconv_Atoi_b10 (s, 0, ((s.data.toList.map (fun x : UInt8 => ((x.toNat : Nat) : Int))).length : Int), 0, s.data.toList.map (fun x : UInt8 => ((x.toNat : Nat) : Int))) = some (.inr (s, (decN s.data.toList : Int))) := by
  have hsz : s.data.toList.length = s.size := Array.length_toList
  generalize hL : s.data.toList = L at *
  have hlen : (L.map (fun x : UInt8 => ((x.toNat : Nat) : Int))).length = L.length := List.length_map _
  refine runLoop_to (fun i : Nat => i ≤ L.length) (fun i : Nat => (s, ((decN (L.take i) : Nat) : Int), ((L.map (fun x : UInt8 => ((x.toNat : Nat) : Int))).length : Int), (i : Int), L.map (fun x : UInt8 => ((x.toNat : Nat) : Int)))) (fun i => L.length - i) _ ?_ 0 (Nat.zero_le _)
  intro i hi
  by_cases hlt : i < L.length
  · left
    refine ⟨i + 1, ?_, hlt, by omega⟩
    obtain ⟨b, hb⟩ : ∃ b, L[i]? = some b := ⟨_, List.getElem?_eq_getElem hlt⟩
    have hbd := h3 b (List.mem_of_getElem? hb)
    have hn : decN (L.take i) ≤ 100 := by
      have := decN_lt (L.take i) (fun b hb => h3 b (List.mem_of_mem_take hb))
      have hl : (L.take i).length ≤ 2 := by rw [List.length_take]; omega
      have : 10 ^ (L.take i).length ≤ 10 ^ 2 := Nat.pow_le_pow_right (by omega) hl
      omega
    have hst : decN (L.take (i + 1)) = decN (L.take i) * 10 + (b.toNat - 48) := by
      rw [List.take_add_one, hb]
      simp [decN]
    rw [hst]
    generalize decN (L.take i) = n at *
    have w3 : IntKind.i64.wrap ((n : Int) * 10) = n * 10 := by rw [wrap_i64] <;> omega
    have w4 : IntKind.i64.wrap ((i : Int) + 1) = ((i + 1 : Nat) : Int) := by rw [wrap_i64] <;> omega
    have d0 : decide ((i : Int) < (L.length : Int)) = true := decide_eq_true (by omega)
    have d1 : decide ((0 : Int) ≤ (i : Int)) = true := decide_eq_true (by omega)
    have g := getD_map_toNat L i b hb
    have w5 : IntKind.u8.wrap ((b.toNat : Int) - 48) = ((b.toNat - 48 : Nat) : Int) := by rw [IntKind.wrap_u8]; omega
    have w6 : IntKind.i64.wrap ((b.toNat - 48 : Nat) : Int) = ((b.toNat - 48 : Nat) : Int) := by rw [wrap_i64] <;> omega
    have w7 : IntKind.i64.wrap ((n : Int) * 10 + ((b.toNat - 48 : Nat) : Int)) = ((n * 10 + (b.toNat - 48) : Nat) : Int) := by rw [wrap_i64] <;> omega
    have c1 : decide (((b.toNat - 48 : Nat) : Int) > 9) = false := decide_eq_false (by omega)
    simp only [internal_strconv_Atoi_b10, hlen, d0, d1, Int.toNat_natCast, decide_eq_true hlt, Bool.and_self, if_true, g, c1, Bool.false_eq_true, if_false, w3, w4, w5, w6, w7]
  · right
    have : i = L.length := by omega
    subst this
    have d0 : decide ((L.length : Int) < (L.length : Int)) = false := decide_eq_false (by omega)
    simp only [internal_strconv_Atoi_b10, hlen, d0, Bool.false_eq_true, if_false]
    rw [List.take_of_length_le (Nat.le_refl _)]
theorem atoi_is (s : ByteArray) (h1 : 1 ≤ s.size) (h2 : s.size ≤ 3) (h3 : ∀ b ∈ s.data.toList, 48 ≤ b.toNat ∧ b.toNat ≤ 57) : strconv_Atoi s = some (decN s.data.toList : Int) := by
  have hsz : s.data.toList.length = s.size := Array.length_toList
  have hm : s.data.toList.getD 0 0 ∈ s.data.toList := by
    cases hq : s.data.toList with
    | nil => rw [hq] at hsz; simp at hsz; omega
    | cons x r => simp [List.getD]
  have hb := h3 _ hm
  have c0 : decide ((0 : Int) < (s.size : Int)) = true := decide_eq_true (by omega)
  have c1 : decide ((s.size : Int) < 19) = true := decide_eq_true (by omega)
  have c2 : decide (((s.data.toList.getD 0 (0 : UInt8)).toNat : Int) = 45) = false := decide_eq_false (by omega)
  have c3 : decide (((s.data.toList.getD 0 (0 : UInt8)).toNat : Int) = 43) = false := decide_eq_false (by omega)
  have c4 : decide (s.size ≤ 9223372036854775807) = true := decide_eq_true (by omega)
  unfold strconv_Atoi internal_strconv_Atoi
  simp only [c0, c1, c2, c3, c4, if_true, Bool.false_eq_true, if_false, atoi_loop s h2 h3, Option.bind_some]

def numOK (c : ByteArray) : Bool := decide (1 ≤ c.size) && decide (c.size ≤ 3) && allIn digits10 c && !(c.data.toList.getD 0 0 == 48) && decide (decN c.data.toList ≤ 254)
def oneW (w : List ByteArray) (l : List (Int × Int × Int)) : Option (Int × Int × Int) := match w with
  | [a, b, c] => if spanOK a b && behindI (l.getLast?.map (fun e => e.2.1)) (ptN a) && numOK c then some ((ptN a : Int), (ptN b : Int), (decN c.data.toList : Int)) else none
  | _ => none
def oneRun (w : List ByteArray) (l : List (Int × Int × Int)) : Option (Int × Int × Int) := match w with
  | [a, b, c] => if spanOK a b && behindI (l.getLast?.map (fun e => e.2.1)) (ptN a) && ptOK c then some ((ptN a : Int), (ptN b : Int), (ptN c : Int)) else none
  | _ => none
theorem three {w : List ByteArray} (h : w.length = 3) : ∃ a b c, w = [a, b, c] := by
  match w, h with
  | [a, b, c], _ => exact ⟨a, b, c, rfl⟩
theorem oneW_ne {w : List ByteArray} (l) (h : w.length ≠ 3) : oneW w l = none := by
  unfold oneW
  split
  · simp at h
  · rfl
theorem oneRun_ne {w : List ByteArray} (l) (h : w.length ≠ 3) : oneRun w l = none := by
  unfold oneRun
  split
  · simp at h
  · rfl
theorem digits10_eq : ByteArray.extract (ByteArray.mk (List.toArray [(48 : UInt8), (49 : UInt8), (50 : UInt8), (51 : UInt8), (52 : UInt8), (53 : UInt8), (54 : UInt8), (55 : UInt8), (56 : UInt8), (57 : UInt8), (65 : UInt8), (66 : UInt8), (67 : UInt8), (68 : UInt8), (69 : UInt8), (70 : UInt8)])) 0 10 = digits10 := by
  rw [ByteArray.ext_iff]; decide
theorem le_cast1 (a b : Nat) : decide ((a : Int) ≤ (b : Int)) = decide (a ≤ b) := by rw [Bool.eq_iff_iff, decide_eq_true_eq, decide_eq_true_eq]; omega

theorem Classes1_is (w : List ByteArray) (l : List (Int × Int × Int)) (hw : ∀ x ∈ w, x.size ≤ 1000000) (hl : l.length ≤ 1000000) :
    ∃ a b n, chart_Classes_1 w l = some ((oneW w l).isSome, a, b, n, w, l) ∧ ∀ x, oneW w l = some x → x = (a, b, n) := by
  by_cases h3 : w.length = 3
  · obtain ⟨a, b, c, rfl⟩ := three h3
    have ha := hw a (by simp)
    have hb := hw b (by simp)
    have hc := hw c (by simp)
    unfold chart_Classes_1
    rw [spannedWeight_eq 3 a b [c] l (by rfl) ha hb hl, digits10_eq]
    simp only [Option.bind_some]
    cases hS : (spanOK a b && behindI (l.getLast?.map (fun e => e.2.1)) (ptN a))
    · have ho : oneW [a, b, c] l = none := by simp only [oneW, hS, Bool.false_and, Bool.false_eq_true, if_false]
      rw [ho]
      exact ⟨0, 0, 0, rfl, fun x h => by cases h⟩
    · have g2 : [a, b, c].getD 2 ByteArray.empty = c := rfl
      have e1 : decide ((2 : Int) < (([a, b, c].length : Nat) : Int)) = true := rfl
      have e2 : decide (2 < [a, b, c].length) = true := rfl
      simp only [Bool.not_true, Bool.false_eq_true, if_false, e1, e2, if_true, g2, made_is c digits10 1 3 low10 (by omega), Option.bind_some]
      have q1 : decide ((1 : Int) ≤ (c.size : Int)) = decide (1 ≤ c.size) := le_cast1 1 _
      have q2 : decide ((c.size : Int) ≤ 3) = decide (c.size ≤ 3) := le_cast1 _ 3
      rw [q1, q2]
      cases hM : (decide (1 ≤ c.size) && decide (c.size ≤ 3) && allIn digits10 c)
      · have ho : oneW [a, b, c] l = none := by simp only [oneW, hS, numOK, hM, Bool.false_and, Bool.and_false, Bool.false_eq_true, if_false]
        rw [ho]
        exact ⟨0, 0, 0, rfl, fun x h => by cases h⟩
      · have hM' := hM
        simp only [Bool.and_eq_true, decide_eq_true_eq] at hM'
        obtain ⟨⟨m1, m2⟩, m3⟩ := hM'
        have hd := dig_of m3
        have hat := atoi_is c m1 m2 hd
        have e3 : decide ((0 : Int) < (c.size : Int)) = true := decide_eq_true (by omega)
        have hz : decide (((c.data.toList.getD 0 (0 : UInt8)).toNat : Int) = 48) = (c.data.toList.getD 0 0 == 48) := by
          rw [Bool.eq_iff_iff, decide_eq_true_eq, beq_iff_eq]
          constructor
          · intro h; exact UInt8.toNat_inj.1 (by have : (48 : UInt8).toNat = 48 := rfl; omega)
          · intro h; rw [h]; rfl
        have hlt := decN_lt _ hd
        have hsz : c.data.toList.length = c.size := Array.length_toList
        have : 10 ^ c.data.toList.length ≤ 10 ^ 3 := Nat.pow_le_pow_right (by omega) (by omega)
        have hu : IntKind.u32.wrap (decN c.data.toList : Int) = decN c.data.toList := by rw [IntKind.wrap_u32]; omega
        have hle : decide ((decN c.data.toList : Int) ≤ 254) = decide (decN c.data.toList ≤ 254) := le_cast1 _ 254
        simp only [Bool.not_true, Bool.false_eq_true, if_false, e3, if_true, hz, hat, Option.bind_some, hu, hle]
        cases hZ : (c.data.toList.getD 0 0 == 48)
        · cases hN : decide (decN c.data.toList ≤ 254)
          · have ho : oneW [a, b, c] l = none := by simp only [oneW, hS, numOK, hM, hZ, hN, Bool.not_false, Bool.and_false, Bool.false_eq_true, if_false]
            rw [ho]
            exact ⟨_, _, _, rfl, fun x h => by cases h⟩
          · have ho : oneW [a, b, c] l = some ((ptN a : Int), (ptN b : Int), (decN c.data.toList : Int)) := by simp only [oneW, hS, numOK, hM, hZ, hN, Bool.not_false, Bool.and_self, if_true]
            rw [ho]
            exact ⟨_, _, _, rfl, fun x h => by cases h; rfl⟩
        · have ho : oneW [a, b, c] l = none := by simp only [oneW, hS, numOK, hM, hZ, Bool.not_true, Bool.and_false, Bool.false_and, Bool.false_eq_true, if_false]
          rw [ho]
          exact ⟨0, 0, 0, rfl, fun x h => by cases h⟩
  · unfold chart_Classes_1
    rw [spannedWeight_ne 3 w l (by omega), oneW_ne l h3]
    exact ⟨0, 0, 0, rfl, fun x h => by cases h⟩

theorem Runs1_is (w : List ByteArray) (l : List (Int × Int × Int)) (hw : ∀ x ∈ w, x.size ≤ 1000000) (hl : l.length ≤ 1000000) :
    ∃ a b n, chart_Runs_1 w l = some ((oneRun w l).isSome, a, b, n, w, l) ∧ ∀ x, oneRun w l = some x → x = (a, b, n) := by
  by_cases h3 : w.length = 3
  · obtain ⟨a, b, c, rfl⟩ := three h3
    have ha := hw a (by simp)
    have hb := hw b (by simp)
    have hc := hw c (by simp)
    unfold chart_Runs_1
    rw [spannedRun_eq 3 a b [c] l (by rfl) ha hb hl]
    simp only [Option.bind_some]
    cases hS : (spanOK a b && behindI (l.getLast?.map (fun e => e.2.1)) (ptN a))
    · have ho : oneRun [a, b, c] l = none := by simp only [oneRun, hS, Bool.false_and, Bool.false_eq_true, if_false]
      rw [ho]
      exact ⟨0, 0, 0, rfl, fun x h => by cases h⟩
    · have g2 : [a, b, c].getD 2 ByteArray.empty = c := rfl
      have e1 : decide ((2 : Int) < (([a, b, c].length : Nat) : Int)) = true := rfl
      have e2 : decide (2 < [a, b, c].length) = true := rfl
      simp only [Bool.not_true, Bool.false_eq_true, if_false, e1, e2, if_true, g2, point_is c (by omega), Option.bind_some]
      cases hM : ptOK c
      · have ho : oneRun [a, b, c] l = none := by simp only [oneRun, hS, hM, Bool.and_false, Bool.false_eq_true, if_false]
        rw [ho]
        exact ⟨_, _, _, rfl, fun x h => by cases h⟩
      · have ho : oneRun [a, b, c] l = some ((ptN a : Int), (ptN b : Int), (ptN c : Int)) := by simp only [oneRun, hS, hM, Bool.and_self, if_true]
        rw [ho]
        exact ⟨_, _, _, rfl, fun x h => by cases h; rfl⟩
  · unfold chart_Runs_1
    rw [spannedRun_ne 3 w l (by omega), oneRun_ne l h3]
    exact ⟨0, 0, 0, rfl, fun x h => by cases h⟩

theorem readWeight_is (s : ByteArray) (hs : s.size ≤ 1000000) : chart_read_Weight s = some (resR (readR oneW (linesOf s) [] 0)) := by
  unfold chart_read_Weight linesOf
  rw [beq_nil]
  by_cases h0 : s.size = 0
  · simp [h0, readR, resR]
  · rw [if_neg (by simpa using h0), if_neg h0, split_is 10 s (by omega)]
    simp only [Option.bind_some]
    have hL : (spB 10 s).length ≤ 1000001 := by have := spB_len 10 s; omega
    have hW : ∀ w ∈ spB 10 s, w.size ≤ 1000000 := fun w h => by have := spB_word 10 s w h; omega
    have hn : (spB 10 s).length ≤ s.size + 1 := spB_len 10 s
    generalize spB 10 s = L at *
    have key := read_go chart_read_Weight_b5 oneW L (fun acc => by simp [chart_read_Weight_b5]) ?_ L.length 0 [] (by omega) rfl
    · rw [show ((0 : Nat) : Int) = 0 from rfl, List.drop_zero] at key
      rw [key]
      simp only [Option.bind_some]
      cases readR oneW (L.map (spB 32)) [] 0 <;> rfl
    · intro i acc w hw ha hi
      have hm : w ∈ L := List.mem_of_getElem? hw
      have hws := hW w hm
      have d0 : decide ((i : Int) < (L.length : Int)) = true := decide_eq_true (by omega)
      have d1 : decide ((0 : Int) ≤ (i : Int)) = true := decide_eq_true (by omega)
      have d2 : decide (i < L.length) = true := decide_eq_true hi
      have hg : L.getD i ByteArray.empty = w := by rw [List.getD_eq_getElem?_getD, hw]; rfl
      have hwr : IntKind.i64.wrap ((i : Int) + 1) = ((i + 1 : Nat) : Int) := by rw [wrap_i64] <;> omega
      have hsp := split_is 32 w (by omega)
      have hww : ∀ x ∈ spB 32 w, x.size ≤ 1000000 := fun x h => by have := spB_word 32 w x h; omega
      obtain ⟨a, b, n, hc, hx⟩ := Classes1_is (spB 32 w) acc hww (by omega)
      simp only [chart_read_Weight_b5, d0, d1, d2, if_true, Bool.and_self, Int.toNat_natCast, hg, hsp, Option.bind_some, hc, hwr]
      cases ho : oneW (spB 32 w) acc with
      | none => simp
      | some x =>
        have := hx x ho
        subst this
        simp
        omega
theorem Classes_is (s : ByteArray) (hs : s.size ≤ 1000000) : chart_Classes s = some (resR (readR oneW (linesOf s) [] 0)) := by
  unfold chart_Classes
  rw [readWeight_is s hs]; rfl

theorem readRun_is (s : ByteArray) (hs : s.size ≤ 1000000) : chart_read_Run s = some (resR (readR oneRun (linesOf s) [] 0)) := by
  unfold chart_read_Run linesOf
  rw [beq_nil]
  by_cases h0 : s.size = 0
  · simp [h0, readR, resR]
  · rw [if_neg (by simpa using h0), if_neg h0, split_is 10 s (by omega)]
    simp only [Option.bind_some]
    have hL : (spB 10 s).length ≤ 1000001 := by have := spB_len 10 s; omega
    have hW : ∀ w ∈ spB 10 s, w.size ≤ 1000000 := fun w h => by have := spB_word 10 s w h; omega
    have hn : (spB 10 s).length ≤ s.size + 1 := spB_len 10 s
    generalize spB 10 s = L at *
    have key := read_go chart_read_Run_b5 oneRun L (fun acc => by simp [chart_read_Run_b5]) ?_ L.length 0 [] (by omega) rfl
    · rw [show ((0 : Nat) : Int) = 0 from rfl, List.drop_zero] at key
      rw [key]
      simp only [Option.bind_some]
      cases readR oneRun (L.map (spB 32)) [] 0 <;> rfl
    · intro i acc w hw ha hi
      have hm : w ∈ L := List.mem_of_getElem? hw
      have hws := hW w hm
      have d0 : decide ((i : Int) < (L.length : Int)) = true := decide_eq_true (by omega)
      have d1 : decide ((0 : Int) ≤ (i : Int)) = true := decide_eq_true (by omega)
      have d2 : decide (i < L.length) = true := decide_eq_true hi
      have hg : L.getD i ByteArray.empty = w := by rw [List.getD_eq_getElem?_getD, hw]; rfl
      have hwr : IntKind.i64.wrap ((i : Int) + 1) = ((i + 1 : Nat) : Int) := by rw [wrap_i64] <;> omega
      have hsp := split_is 32 w (by omega)
      have hww : ∀ x ∈ spB 32 w, x.size ≤ 1000000 := fun x h => by have := spB_word 32 w x h; omega
      obtain ⟨a, b, n, hc, hx⟩ := Runs1_is (spB 32 w) acc hww (by omega)
      simp only [chart_read_Run_b5, d0, d1, d2, if_true, Bool.and_self, Int.toNat_natCast, hg, hsp, Option.bind_some, hc, hwr]
      cases ho : oneRun (spB 32 w) acc with
      | none => simp
      | some x =>
        have := hx x ho
        subst this
        simp
        omega
theorem Runs_is (s : ByteArray) (hs : s.size ≤ 1000000) : chart_Runs s = some (resR (readR oneRun (linesOf s) [] 0)) := by
  unfold chart_Runs
  rw [readRun_is s hs]; rfl
end Go.Pc

namespace Go.Pc
open Go Go.Sx Go.Tx
def capsB : ByteArray := ⟨#[65, 66, 67, 68, 69, 70, 71, 72, 73, 74, 75, 76, 77, 78, 79, 80, 81, 82, 83, 84, 85, 86, 87, 88, 89, 90]⟩
def smallsB : ByteArray := ⟨#[97, 98, 99, 100, 101, 102, 103, 104, 105, 106, 107, 108, 109, 110, 111, 112, 113, 114, 115, 116, 117, 118, 119, 120, 121, 122]⟩
def joinsB : ByteArray := ⟨#[85, 68, 82, 76, 67, 84]⟩
def signsB : ByteArray := ⟨#[61, 33, 126]⟩
theorem lowCaps : Low capsB := by unfold Low capsB; decide
theorem lowSmalls : Low smallsB := by unfold Low smallsB; decide
theorem lowJoins : Low joinsB := by unfold Low joinsB; decide
theorem lowSigns : Low signsB := by unfold Low signsB; decide
theorem capsB_eq : (ByteArray.mk (List.toArray [(65 : UInt8), (66 : UInt8), (67 : UInt8), (68 : UInt8), (69 : UInt8), (70 : UInt8), (71 : UInt8), (72 : UInt8), (73 : UInt8), (74 : UInt8), (75 : UInt8), (76 : UInt8), (77 : UInt8), (78 : UInt8), (79 : UInt8), (80 : UInt8), (81 : UInt8), (82 : UInt8), (83 : UInt8), (84 : UInt8), (85 : UInt8), (86 : UInt8), (87 : UInt8), (88 : UInt8), (89 : UInt8), (90 : UInt8)])) = capsB := rfl
theorem smallsB_eq : (ByteArray.mk (List.toArray [(97 : UInt8), (98 : UInt8), (99 : UInt8), (100 : UInt8), (101 : UInt8), (102 : UInt8), (103 : UInt8), (104 : UInt8), (105 : UInt8), (106 : UInt8), (107 : UInt8), (108 : UInt8), (109 : UInt8), (110 : UInt8), (111 : UInt8), (112 : UInt8), (113 : UInt8), (114 : UInt8), (115 : UInt8), (116 : UInt8), (117 : UInt8), (118 : UInt8), (119 : UInt8), (120 : UInt8), (121 : UInt8), (122 : UInt8)])) = smallsB := rfl
theorem joinsB_eq : (ByteArray.mk (List.toArray [(85 : UInt8), (68 : UInt8), (82 : UInt8), (76 : UInt8), (67 : UInt8), (84 : UInt8)])) = joinsB := rfl
theorem signsB_eq : (ByteArray.mk (List.toArray [(61 : UInt8), (33 : UInt8), (126 : UInt8)])) = signsB := rfl
def isB (s : ByteArray) (t : List UInt8) : Bool := List.beq (ByteArray.toList s) (ByteArray.toList (ByteArray.mk (List.toArray t)))
theorem isB_eq (s : ByteArray) (t : List UInt8) : List.beq (ByteArray.toList s) (ByteArray.toList (ByteArray.mk (List.toArray t))) = isB s t := rfl

def oneNamed (w : List ByteArray) (_ : List (ByteArray × Int × Int)) : Option (ByteArray × Int × Int) := match w with
  | [a, b, c] => if (decide (1 ≤ a.size) && decide (a.size ≤ 10) && allIn capsB a) && spanOK b c then some (a, (ptN b : Int), (ptN c : Int)) else none
  | _ => none
theorem oneNamed_ne {w : List ByteArray} (l) (h : w.length ≠ 3) : oneNamed w l = none := by
  unfold oneNamed
  split
  · simp at h
  · rfl
theorem Sets1_is (w : List ByteArray) (l : List (ByteArray × Int × Int)) (hw : ∀ x ∈ w, x.size ≤ 1000000) (hl : l.length ≤ 1000000) :
    ∃ a b n, chart_Sets_1 w l = some ((oneNamed w l).isSome, a, b, n, w, l) ∧ ∀ x, oneNamed w l = some x → x = (a, b, n) := by
  by_cases h3 : w.length = 3
  · obtain ⟨a, b, c, rfl⟩ := three h3
    have ha := hw a (by simp)
    have hb := hw b (by simp)
    have hc := hw c (by simp)
    unfold chart_Sets_1
    rw [capsB_eq]
    have g0 : [a, b, c].getD 0 ByteArray.empty = a := rfl
    have g1 : [a, b, c].getD 1 ByteArray.empty = b := rfl
    have g2 : [a, b, c].getD 2 ByteArray.empty = c := rfl
    have e0 : ((([a, b, c].length : Nat) : Int) != 3) = false := rfl
    have e1 : decide ((0 : Int) < (([a, b, c].length : Nat) : Int)) = true := rfl
    have e2 : decide (0 < [a, b, c].length) = true := rfl
    have e3 : decide ((1 : Int) < (([a, b, c].length : Nat) : Int)) = true := rfl
    have e4 : decide (1 < [a, b, c].length) = true := rfl
    have e5 : decide ((2 : Int) < (([a, b, c].length : Nat) : Int)) = true := rfl
    have e6 : decide (2 < [a, b, c].length) = true := rfl
    simp only [Bool.not_true, Bool.false_eq_true, if_false, e0, e1, e2, e3, e4, e5, e6, if_true, g0, g1, g2, made_is a capsB 1 10 lowCaps (by omega), span_is b c (by omega) (by omega), Option.bind_some]
    have q1 : decide ((1 : Int) ≤ (a.size : Int)) = decide (1 ≤ a.size) := le_cast1 1 _
    have q2 : decide ((a.size : Int) ≤ 10) = decide (a.size ≤ 10) := le_cast1 _ 10
    rw [q1, q2]
    cases hM : (decide (1 ≤ a.size) && decide (a.size ≤ 10) && allIn capsB a)
    · have ho : oneNamed [a, b, c] l = none := by simp only [oneNamed, hM, Bool.false_and, Bool.false_eq_true, if_false]
      rw [ho]
      exact ⟨_, _, _, rfl, fun x h => by cases h⟩
    · cases hS : spanOK b c
      · have ho : oneNamed [a, b, c] l = none := by simp only [oneNamed, hM, hS, Bool.and_false, Bool.false_eq_true, if_false]
        rw [ho]
        exact ⟨_, _, _, rfl, fun x h => by cases h⟩
      · have ho : oneNamed [a, b, c] l = some (a, (ptN b : Int), (ptN c : Int)) := by simp only [oneNamed, hM, hS, Bool.and_self, if_true]
        rw [ho]
        exact ⟨_, _, _, rfl, fun x h => by cases h; rfl⟩
  · have e0 : (((w.length : Nat) : Int) != 3) = true := by simp; omega
    unfold chart_Sets_1
    rw [oneNamed_ne l h3]
    simp only [e0, if_true]
    exact ⟨_, _, _, rfl, fun x h => by cases h⟩

def ptsOK : List ByteArray → Bool := fun l => l.all ptOK
theorem points_go (L : List ByteArray) (hL : L.length ≤ 1000000) (hw : ∀ x ∈ L, x.size ≤ 1000000) : ∀ (n i : Nat) (acc : List Int), n + i = L.length → acc.length = i →
    runLoop chart_points_b3 ((L.length : Int), (i : Int), L, acc) = some (if ptsOK (L.drop i) then .inr (L, acc ++ (L.drop i).map (fun x => (ptN x : Int))) else .inl (false, L)) := by
  intro n
  induction n with
  | zero =>
    intro i acc h1 h2
    have : i = L.length := by omega
    subst this
    have d0 : decide ((L.length : Int) < (L.length : Int)) = false := decide_eq_false (by omega)
    rw [runLoop_done (x := .inr (L, acc)) (by simp only [chart_points_b3, d0, Bool.false_eq_true, if_false]), List.drop_length]
    simp [ptsOK]
  | succ n ih =>
    intro i acc h1 h2
    have hi : i < L.length := by omega
    have d0 : decide ((i : Int) < (L.length : Int)) = true := decide_eq_true (by omega)
    have d1 : decide ((0 : Int) ≤ (i : Int)) = true := decide_eq_true (by omega)
    have d2 : decide (i < L.length) = true := decide_eq_true hi
    have hg : L.getD i ByteArray.empty = L[i] := by rw [List.getD_eq_getElem?_getD, List.getElem?_eq_getElem hi]; rfl
    have hwr : IntKind.i64.wrap ((i : Int) + 1) = ((i + 1 : Nat) : Int) := by rw [wrap_i64] <;> omega
    have hm : L[i] ∈ L := List.getElem_mem hi
    have hp := point_is L[i] (by have := hw _ hm; omega)
    rw [List.drop_eq_getElem_cons hi]
    cases ho : ptOK L[i]
    · rw [runLoop_done (x := .inl (false, L)) (by simp only [chart_points_b3, d0, d1, d2, if_true, Bool.and_self, Int.toNat_natCast, hg, hp, Option.bind_some, ho, Bool.not_false])]
      have e : ptsOK (L[i] :: L.drop (i + 1)) = false := by
        show (ptOK L[i] && _) = false
        rw [ho]; rfl
      rw [e]; rfl
    · have hlen : decide ((acc.length + [(ptN L[i] : Int)].length) * 4 ≤ 140737488355328) = true := decide_eq_true (by simp; omega)
      rw [runLoop_step (v' := ((L.length : Int), ((i + 1 : Nat) : Int), L, acc ++ [(ptN L[i] : Int)])) (by simp only [chart_points_b3, d0, d1, d2, if_true, Bool.and_self, Int.toNat_natCast, hg, hp, Option.bind_some, ho, Bool.not_true, Bool.false_eq_true, if_false, hlen, hwr])]
      rw [ih (i + 1) (acc ++ [(ptN L[i] : Int)]) (by omega) (by simp [h2])]
      have e : ptsOK (L[i] :: L.drop (i + 1)) = ptsOK (L.drop (i + 1)) := by
        show (ptOK L[i] && ptsOK _) = _
        rw [ho, Bool.true_and]
      rw [e, List.map_cons, List.append_assoc]; rfl
theorem points_is (L : List ByteArray) (hL : L.length ≤ 1000000) (hw : ∀ x ∈ L, x.size ≤ 1000000) :
    ∃ r, chart_points L = some (ptsOK L && decide (0 < L.length) && decide (L.length ≤ 3), L, r) ∧ (ptsOK L = true → r = L.map (fun x => (ptN x : Int))) := by
  have h := points_go L hL hw L.length 0 [] (by omega) rfl
  rw [show ((0 : Nat) : Int) = 0 from rfl, List.drop_zero, List.nil_append] at h
  unfold chart_points
  rw [h]
  simp only [Option.bind_some]
  cases hp : ptsOK L
  · exact ⟨[], rfl, fun h => by cases h⟩
  · refine ⟨L.map (fun x => (ptN x : Int)), ?_, fun _ => rfl⟩
    simp only [if_true]
    by_cases h0 : 0 < L.length
    · have d0 : decide ((L.length : Int) > 0) = true := decide_eq_true (by omega)
      have q2 : decide ((L.length : Int) ≤ 3) = decide (L.length ≤ 3) := le_cast1 _ 3
      simp [d0, q2, h0]
    · have d0 : decide ((L.length : Int) > 0) = false := decide_eq_false (by omega)
      simp [d0, h0]

def aheadI (e : Option Int) (f : Int) : Bool := match e with
  | none => true
  | some x => !decide (x ≥ f)
def oneDecomp (w : List ByteArray) (l : List (Int × List Int × Bool × Bool)) : Option (Int × List Int × Bool × Bool) := match w with
  | a :: b :: c :: r => if (decide (1 ≤ b.size) && decide (b.size ≤ 1) && allIn signsB b) && ptOK a && (ptsOK (c :: r) && decide ((c :: r).length ≤ 3)) && aheadI (l.getLast?.map (fun e => e.1)) (ptN a) then
      some ((ptN a : Int), (c :: r).map (fun x => (ptN x : Int)), isB b [126], isB b [33]) else none
  | _ => none
theorem oneDecomp_ne {w : List ByteArray} (l) (h : w.length < 3) : oneDecomp w l = none := by
  unfold oneDecomp
  split
  · simp at h; omega
  · rfl
theorem more3 {w : List ByteArray} (h : ¬ w.length < 3) : ∃ a b c r, w = a :: b :: c :: r := by
  match w, h with
  | [], h => simp at h
  | [_], h => simp at h
  | [_, _], h => simp at h
  | a :: b :: c :: r, _ => exact ⟨a, b, c, r, rfl⟩
theorem Decomps1_is (w : List ByteArray) (l : List (Int × List Int × Bool × Bool)) (hw : ∀ x ∈ w, x.size ≤ 1000000) (hwl : w.length ≤ 1000001) (hl : l.length ≤ 1000000) :
    ∃ n x y r, chart_Decomps_1 w l = some ((oneDecomp w l).isSome, n, x, y, w, l, r) ∧ ∀ z, oneDecomp w l = some z → z = (n, r, x, y) := by
  by_cases h3 : w.length < 3
  · have e0 : decide (((w.length : Nat) : Int) < 3) = true := decide_eq_true (by omega)
    unfold chart_Decomps_1
    rw [oneDecomp_ne l h3]
    simp only [e0, if_true]
    exact ⟨_, _, _, _, rfl, fun x h => by cases h⟩
  · obtain ⟨a, b, c, r, rfl⟩ := more3 h3
    have ha := hw a (by simp)
    have hb := hw b (by simp)
    obtain ⟨q, hq, hq'⟩ := points_is (c :: r) (by simp at hwl ⊢; omega) (fun x hx => hw x (by simp at hx ⊢; exact .inr (.inr hx)))
    unfold chart_Decomps_1
    rw [signsB_eq]
    generalize hN : (a :: b :: c :: r).length = N at *
    have hN3 : 3 ≤ N := by omega
    have g0 : (a :: b :: c :: r).getD 0 ByteArray.empty = a := rfl
    have g1 : (a :: b :: c :: r).getD 1 ByteArray.empty = b := rfl
    have gd : List.drop 2 (List.take ((N : Nat) : Int).toNat (a :: b :: c :: r)) = c :: r := by rw [Int.toNat_natCast, ← hN, List.take_length]; rfl
    have e0 : decide (((N : Nat) : Int) < 3) = false := decide_eq_false (by omega)
    have e1 : decide ((0 : Int) < ((N : Nat) : Int)) = true := decide_eq_true (by omega)
    have e2 : decide (0 < N) = true := decide_eq_true (by omega)
    have e3 : decide ((1 : Int) < ((N : Nat) : Int)) = true := decide_eq_true (by omega)
    have e4 : decide (1 < N) = true := decide_eq_true (by omega)
    have e5 : decide ((2 : Int) ≤ ((N : Nat) : Int)) = true := decide_eq_true (by omega)
    have e6 : decide (((N : Nat) : Int) ≤ ((N : Nat) : Int)) = true := decide_eq_true (by omega)
    simp only [Bool.false_eq_true, if_false, e0, e1, e2, e3, e4, e5, e6, if_true, Bool.and_self, g0, g1, gd, hq, isB_eq, made_is b signsB 1 1 lowSigns (by omega), point_is a (by omega), Option.bind_some]
    have q1 : decide ((1 : Int) ≤ (b.size : Int)) = decide (1 ≤ b.size) := le_cast1 1 _
    have q2 : decide ((b.size : Int) ≤ 1) = decide (b.size ≤ 1) := le_cast1 _ 1
    have q3 : decide (0 < (c :: r).length) = true := decide_eq_true (by simp)
    rw [q1, q2, q3, Bool.and_true]
    cases hM : (decide (1 ≤ b.size) && decide (b.size ≤ 1) && allIn signsB b)
    · have ho : oneDecomp (a :: b :: c :: r) l = none := by simp only [oneDecomp, hM, Bool.false_and, Bool.false_eq_true, if_false]
      rw [ho]
      exact ⟨_, _, _, _, rfl, fun x h => by cases h⟩
    · cases hA : ptOK a
      · have ho : oneDecomp (a :: b :: c :: r) l = none := by simp only [oneDecomp, hA, Bool.false_and, Bool.and_false, Bool.false_eq_true, if_false]
        rw [ho]
        exact ⟨_, _, _, _, rfl, fun x h => by cases h⟩
      · cases hP : (ptsOK (c :: r) && decide ((c :: r).length ≤ 3))
        · have ho : oneDecomp (a :: b :: c :: r) l = none := by simp only [oneDecomp, hP, Bool.false_and, Bool.and_false, Bool.false_eq_true, if_false]
          rw [ho]
          exact ⟨_, _, _, _, rfl, fun x h => by cases h⟩
        · have hq2 := hq' (by simp only [Bool.and_eq_true] at hP; exact hP.1)
          rcases last_cases l with rfl | ⟨i, e, rfl⟩
          · have ho : oneDecomp (a :: b :: c :: r) [] = some ((ptN a : Int), (c :: r).map (fun x => (ptN x : Int)), isB b [126], isB b [33]) := by simp only [oneDecomp, hM, hA, hP, Bool.and_self, List.getLast?_nil, Option.map_none, aheadI, if_true]
            rw [ho]
            exact ⟨_, _, _, _, rfl, fun x h => by cases h; rw [hq2]⟩
          · have hl' : (i ++ [e]).length = i.length + 1 := by simp
            have hwp : IntKind.i64.wrap ((((i ++ [e]).length : Nat) : Int) - 1) = (i.length : Int) := by rw [hl'] at hl ⊢; rw [wrap_i64] <;> omega
            have h0 : decide ((((i ++ [e]).length : Nat) : Int) > 0) = true := decide_eq_true (by rw [hl']; omega)
            have h1 : decide ((0 : Int) ≤ (i.length : Int)) = true := decide_eq_true (by omega)
            have h2 : decide ((i.length : Int) < (((i ++ [e]).length : Nat) : Int)) = true := decide_eq_true (by rw [hl']; omega)
            have h3 : decide (i.length < (i ++ [e]).length) = true := decide_eq_true (by rw [hl']; omega)
            simp only [Bool.not_true, Bool.false_eq_true, if_false, h0, if_true, hwp, h1, h2, Bool.and_self, Int.toNat_natCast, h3, getD_lst]
            cases hE : decide (e.1 ≥ (ptN a : Int))
            · have ho : oneDecomp (a :: b :: c :: r) (i ++ [e]) = some ((ptN a : Int), (c :: r).map (fun x => (ptN x : Int)), isB b [126], isB b [33]) := by simp only [oneDecomp, hM, hA, hP, Bool.and_self, List.getLast?_concat, Option.map_some, aheadI, hE, Bool.not_false, if_true]
              rw [ho]
              exact ⟨_, _, _, _, rfl, fun x h => by cases h; rw [hq2]⟩
            · have ho : oneDecomp (a :: b :: c :: r) (i ++ [e]) = none := by simp only [oneDecomp, List.getLast?_concat, Option.map_some, aheadI, hE, Bool.not_true, Bool.and_false, Bool.false_eq_true, if_false]
              rw [ho]
              exact ⟨_, _, _, _, rfl, fun x h => by cases h⟩

def catOK (c : ByteArray) : Bool := decide (c.size = 2) && allIn capsB (c.extract 0 1) && allIn smallsB (c.extract 1 c.size)
def newOK (f : ByteArray) : Bool := isB f [111, 108, 100] || isB f [110, 101, 119]
def oneRange (w : List ByteArray) (l : List (Int × Int × ByteArray × ByteArray × ByteArray × Bool)) : Option (Int × Int × ByteArray × ByteArray × ByteArray × Bool) := match w with
  | [a, b, c, d, e, f] => if (spanOK a b && behindI (l.getLast?.map (fun e => e.2.1)) (ptN a)) && catOK c && (decide (1 ≤ d.size) && decide (d.size ≤ 3) && allIn capsB d) && (decide (1 ≤ e.size) && decide (e.size ≤ 1) && allIn joinsB e) && newOK f then
      some ((ptN a : Int), (ptN b : Int), c, d, e, isB f [110, 101, 119]) else none
  | _ => none
theorem six {w : List ByteArray} (h : w.length = 6) : ∃ a b c d e f, w = [a, b, c, d, e, f] := by
  match w, h with
  | [a, b, c, d, e, f], _ => exact ⟨a, b, c, d, e, f, rfl⟩
theorem oneRange_ne {w : List ByteArray} (l) (h : w.length ≠ 6) : oneRange w l = none := by
  unfold oneRange
  split
  · simp at h
  · rfl
set_option maxHeartbeats 2000000 in
theorem Ranges1_is (w : List ByteArray) (l : List (Int × Int × ByteArray × ByteArray × ByteArray × Bool)) (hw : ∀ x ∈ w, x.size ≤ 1000000) (hl : l.length ≤ 1000000) :
    ∃ p q x y z n, chart_Ranges_1 w l = some ((oneRange w l).isSome, p, q, x, y, z, n, w, l) ∧ ∀ v, oneRange w l = some v → v = (p, q, x, y, z, n) := by
  by_cases h6 : w.length = 6
  · obtain ⟨a, b, c, d, e, f, rfl⟩ := six h6
    have ha := hw a (by simp)
    have hb := hw b (by simp)
    have hc := hw c (by simp)
    have hd := hw d (by simp)
    have he := hw e (by simp)
    unfold chart_Ranges_1
    rw [spannedRange_eq 6 a b [c, d, e, f] l (by rfl) ha hb hl, capsB_eq, smallsB_eq, joinsB_eq]
    simp only [Option.bind_some]
    generalize hW : [a, b, c, d, e, f] = W at *
    have g2 : W.getD 2 ByteArray.empty = c := by rw [← hW]; rfl
    have g3 : W.getD 3 ByteArray.empty = d := by rw [← hW]; rfl
    have g4 : W.getD 4 ByteArray.empty = e := by rw [← hW]; rfl
    have g5 : W.getD 5 ByteArray.empty = f := by rw [← hW]; rfl
    have e1 : decide ((2 : Int) < ((W.length : Nat) : Int)) = true := decide_eq_true (by omega)
    have e2 : decide (2 < W.length) = true := decide_eq_true (by omega)
    have e3 : decide ((3 : Int) < ((W.length : Nat) : Int)) = true := decide_eq_true (by omega)
    have e4 : decide (3 < W.length) = true := decide_eq_true (by omega)
    have e5 : decide ((4 : Int) < ((W.length : Nat) : Int)) = true := decide_eq_true (by omega)
    have e6 : decide (4 < W.length) = true := decide_eq_true (by omega)
    have e7 : decide ((5 : Int) < ((W.length : Nat) : Int)) = true := decide_eq_true (by omega)
    have e8 : decide (5 < W.length) = true := decide_eq_true (by omega)
    have hOne : oneRange W l = if (spanOK a b && behindI (l.getLast?.map (fun e => e.2.1)) (ptN a)) && catOK c && (decide (1 ≤ d.size) && decide (d.size ≤ 3) && allIn capsB d) && (decide (1 ≤ e.size) && decide (e.size ≤ 1) && allIn joinsB e) && newOK f then some ((ptN a : Int), (ptN b : Int), c, d, e, isB f [110, 101, 119]) else none := by rw [← hW]; rfl
    simp only [e1, e2, e3, e4, e5, e6, e7, e8, if_true, g2, g3, g4, g5, isB_eq]
    cases hS : (spanOK a b && behindI (l.getLast?.map (fun e => e.2.1)) (ptN a))
    · have ho : oneRange W l = none := by rw [hOne]; simp only [hS, Bool.false_and, Bool.false_eq_true, if_false]
      rw [ho]
      exact ⟨_, _, _, _, _, _, rfl, fun x h => by cases h⟩
    · by_cases hc2 : c.size = 2
      · have c0 : ((((c.size : Nat) : Int)) != 2) = false := by rw [hc2]; rfl
        have c1 : decide ((1 : Int) ≤ ((c.size : Nat) : Int)) = true := decide_eq_true (by omega)
        have s1 : (c.extract 0 1).size = 1 := by rw [ByteArray.size_extract]; omega
        have s2 : (c.extract 1 c.size).size = 1 := by rw [ByteArray.size_extract]; omega
        have o1 : (decide ((1 : Int) ≤ ((1 : Nat) : Int)) && decide (((1 : Nat) : Int) ≤ (1 : Int))) = true := rfl
        simp only [Bool.not_true, Bool.false_eq_true, if_false, c0, c1, if_true, made_is (c.extract 0 1) capsB 1 1 lowCaps (by omega), made_is (c.extract 1 c.size) smallsB 1 1 lowSmalls (by omega), s1, s2, o1, Bool.true_and, Option.bind_some]
        cases hx1 : allIn capsB (c.extract 0 1)
        · have ho : oneRange W l = none := by rw [hOne]; simp only [catOK, hx1, Bool.false_and, Bool.and_false, Bool.false_eq_true, if_false]
          rw [ho]
          exact ⟨_, _, _, _, _, _, rfl, fun x h => by cases h⟩
        · cases hx2 : allIn smallsB (c.extract 1 c.size)
          · have ho : oneRange W l = none := by rw [hOne]; simp only [catOK, hx2, Bool.false_and, Bool.and_false, Bool.false_eq_true, if_false]
            rw [ho]
            exact ⟨_, _, _, _, _, _, rfl, fun x h => by cases h⟩
          · have hcat : catOK c = true := by simp only [catOK, hx1, hx2, decide_eq_true hc2, Bool.and_self]
            simp only [Bool.not_true, Bool.false_eq_true, if_false, made_is d capsB 1 3 lowCaps (by omega), made_is e joinsB 1 1 lowJoins (by omega), Option.bind_some]
            rw [show decide ((1 : Int) ≤ (d.size : Int)) = decide (1 ≤ d.size) from le_cast1 1 _, show decide ((d.size : Int) ≤ 3) = decide (d.size ≤ 3) from le_cast1 _ 3, show decide ((1 : Int) ≤ (e.size : Int)) = decide (1 ≤ e.size) from le_cast1 1 _, show decide ((e.size : Int) ≤ 1) = decide (e.size ≤ 1) from le_cast1 _ 1]
            cases hD : (decide (1 ≤ d.size) && decide (d.size ≤ 3) && allIn capsB d)
            · have ho : oneRange W l = none := by rw [hOne]; simp only [hD, Bool.false_and, Bool.and_false, Bool.false_eq_true, if_false]
              rw [ho]
              exact ⟨_, _, _, _, _, _, rfl, fun x h => by cases h⟩
            · cases hE : (decide (1 ≤ e.size) && decide (e.size ≤ 1) && allIn joinsB e)
              · have ho : oneRange W l = none := by rw [hOne]; simp only [hE, Bool.false_and, Bool.and_false, Bool.false_eq_true, if_false]
                rw [ho]
                exact ⟨_, _, _, _, _, _, rfl, fun x h => by cases h⟩
              · cases hF1 : isB f [111, 108, 100]
                · cases hF2 : isB f [110, 101, 119]
                  · have ho : oneRange W l = none := by rw [hOne]; simp only [newOK, hF1, hF2, Bool.or_self, Bool.and_false, Bool.false_eq_true, if_false]
                    rw [ho]
                    exact ⟨_, _, _, _, _, _, rfl, fun x h => by cases h⟩
                  · have ho : oneRange W l = some ((ptN a : Int), (ptN b : Int), c, d, e, isB f [110, 101, 119]) := by rw [hOne]; simp only [hS, hcat, hD, hE, newOK, hF1, hF2, Bool.or_true, Bool.and_self, if_true]
                    rw [ho, hF2]
                    exact ⟨_, _, _, _, _, _, rfl, fun x h => by cases h; rfl⟩
                · have ho : oneRange W l = some ((ptN a : Int), (ptN b : Int), c, d, e, isB f [110, 101, 119]) := by rw [hOne]; simp only [hS, hcat, hD, hE, newOK, hF1, Bool.true_or, Bool.and_self, if_true]
                  rw [ho]
                  exact ⟨_, _, _, _, _, _, rfl, fun x h => by cases h; rfl⟩
      · have c0 : ((((c.size : Nat) : Int)) != 2) = true := by simp; omega
        have ho : oneRange W l = none := by rw [hOne]; simp only [catOK, decide_eq_false hc2, Bool.false_and, Bool.and_false, Bool.false_eq_true, if_false]
        rw [ho]
        simp only [Bool.not_true, Bool.false_eq_true, if_false, c0, if_true]
        exact ⟨_, _, _, _, _, _, rfl, fun x h => by cases h⟩
  · unfold chart_Ranges_1
    rw [spannedRange_ne 6 w l (by omega), oneRange_ne l h6]
    exact ⟨_, _, _, _, _, _, rfl, fun x h => by cases h⟩

theorem readNamed_is (s : ByteArray) (hs : s.size ≤ 1000000) : chart_read_Named s = some (resR (readR oneNamed (linesOf s) [] 0)) := by
  unfold chart_read_Named linesOf
  rw [beq_nil]
  by_cases h0 : s.size = 0
  · simp [h0, readR, resR]
  · rw [if_neg (by simpa using h0), if_neg h0, split_is 10 s (by omega)]
    simp only [Option.bind_some]
    have hL : (spB 10 s).length ≤ 1000001 := by have := spB_len 10 s; omega
    have hW : ∀ w ∈ spB 10 s, w.size ≤ 1000000 := fun w h => by have := spB_word 10 s w h; omega
    have hn : (spB 10 s).length ≤ s.size + 1 := spB_len 10 s
    generalize spB 10 s = L at *
    have key := read_go chart_read_Named_b5 oneNamed L (fun acc => by simp [chart_read_Named_b5]) ?_ L.length 0 [] (by omega) rfl
    · rw [show ((0 : Nat) : Int) = 0 from rfl, List.drop_zero] at key
      rw [key]
      simp only [Option.bind_some]
      cases readR oneNamed (L.map (spB 32)) [] 0 <;> rfl
    · intro i acc w hw ha hi
      have hm : w ∈ L := List.mem_of_getElem? hw
      have hws := hW w hm
      have d0 : decide ((i : Int) < (L.length : Int)) = true := decide_eq_true (by omega)
      have d1 : decide ((0 : Int) ≤ (i : Int)) = true := decide_eq_true (by omega)
      have d2 : decide (i < L.length) = true := decide_eq_true hi
      have hg : L.getD i ByteArray.empty = w := by rw [List.getD_eq_getElem?_getD, hw]; rfl
      have hwr : IntKind.i64.wrap ((i : Int) + 1) = ((i + 1 : Nat) : Int) := by rw [wrap_i64] <;> omega
      have hsp := split_is 32 w (by omega)
      have hww : ∀ x ∈ spB 32 w, x.size ≤ 1000000 := fun x h => by have := spB_word 32 w x h; omega
      obtain ⟨a, b, n, hc, hx⟩ := Sets1_is (spB 32 w) acc hww (by omega)
      simp only [chart_read_Named_b5, d0, d1, d2, if_true, Bool.and_self, Int.toNat_natCast, hg, hsp, Option.bind_some, hc, hwr]
      cases ho : oneNamed (spB 32 w) acc with
      | none => simp
      | some x =>
        have := hx x ho
        subst this
        simp
        omega
theorem Sets_is (s : ByteArray) (hs : s.size ≤ 1000000) : chart_Sets s = some (resR (readR oneNamed (linesOf s) [] 0)) := by
  unfold chart_Sets
  rw [readNamed_is s hs]; rfl

theorem readRange_is (s : ByteArray) (hs : s.size ≤ 1000000) : chart_read_Range s = some (resR (readR oneRange (linesOf s) [] 0)) := by
  unfold chart_read_Range linesOf
  rw [beq_nil]
  by_cases h0 : s.size = 0
  · simp [h0, readR, resR]
  · rw [if_neg (by simpa using h0), if_neg h0, split_is 10 s (by omega)]
    simp only [Option.bind_some]
    have hL : (spB 10 s).length ≤ 1000001 := by have := spB_len 10 s; omega
    have hW : ∀ w ∈ spB 10 s, w.size ≤ 1000000 := fun w h => by have := spB_word 10 s w h; omega
    have hn : (spB 10 s).length ≤ s.size + 1 := spB_len 10 s
    generalize spB 10 s = L at *
    have key := read_go chart_read_Range_b5 oneRange L (fun acc => by simp [chart_read_Range_b5]) ?_ L.length 0 [] (by omega) rfl
    · rw [show ((0 : Nat) : Int) = 0 from rfl, List.drop_zero] at key
      rw [key]
      simp only [Option.bind_some]
      cases readR oneRange (L.map (spB 32)) [] 0 <;> rfl
    · intro i acc w hw ha hi
      have hm : w ∈ L := List.mem_of_getElem? hw
      have hws := hW w hm
      have d0 : decide ((i : Int) < (L.length : Int)) = true := decide_eq_true (by omega)
      have d1 : decide ((0 : Int) ≤ (i : Int)) = true := decide_eq_true (by omega)
      have d2 : decide (i < L.length) = true := decide_eq_true hi
      have hg : L.getD i ByteArray.empty = w := by rw [List.getD_eq_getElem?_getD, hw]; rfl
      have hwr : IntKind.i64.wrap ((i : Int) + 1) = ((i + 1 : Nat) : Int) := by rw [wrap_i64] <;> omega
      have hsp := split_is 32 w (by omega)
      have hww : ∀ x ∈ spB 32 w, x.size ≤ 1000000 := fun x h => by have := spB_word 32 w x h; omega
      obtain ⟨p, q, x, y, z, n, hc, hx⟩ := Ranges1_is (spB 32 w) acc hww (by omega)
      simp only [chart_read_Range_b5, d0, d1, d2, if_true, Bool.and_self, Int.toNat_natCast, hg, hsp, Option.bind_some, hc, hwr]
      cases ho : oneRange (spB 32 w) acc with
      | none => simp
      | some x =>
        have := hx x ho
        subst this
        simp
        omega
theorem Ranges_is (s : ByteArray) (hs : s.size ≤ 1000000) : chart_Ranges s = some (resR (readR oneRange (linesOf s) [] 0)) := by
  unfold chart_Ranges
  rw [readRange_is s hs]; rfl

theorem readDecomp_is (s : ByteArray) (hs : s.size ≤ 1000000) : chart_read_Decomp s = some (resR (readR oneDecomp (linesOf s) [] 0)) := by
  unfold chart_read_Decomp linesOf
  rw [beq_nil]
  by_cases h0 : s.size = 0
  · simp [h0, readR, resR]
  · rw [if_neg (by simpa using h0), if_neg h0, split_is 10 s (by omega)]
    simp only [Option.bind_some]
    have hL : (spB 10 s).length ≤ 1000001 := by have := spB_len 10 s; omega
    have hW : ∀ w ∈ spB 10 s, w.size ≤ 1000000 := fun w h => by have := spB_word 10 s w h; omega
    have hn : (spB 10 s).length ≤ s.size + 1 := spB_len 10 s
    generalize spB 10 s = L at *
    have key := read_go chart_read_Decomp_b5 oneDecomp L (fun acc => by simp [chart_read_Decomp_b5]) ?_ L.length 0 [] (by omega) rfl
    · rw [show ((0 : Nat) : Int) = 0 from rfl, List.drop_zero] at key
      rw [key]
      simp only [Option.bind_some]
      cases readR oneDecomp (L.map (spB 32)) [] 0 <;> rfl
    · intro i acc w hw ha hi
      have hm : w ∈ L := List.mem_of_getElem? hw
      have hws := hW w hm
      have d0 : decide ((i : Int) < (L.length : Int)) = true := decide_eq_true (by omega)
      have d1 : decide ((0 : Int) ≤ (i : Int)) = true := decide_eq_true (by omega)
      have d2 : decide (i < L.length) = true := decide_eq_true hi
      have hg : L.getD i ByteArray.empty = w := by rw [List.getD_eq_getElem?_getD, hw]; rfl
      have hwr : IntKind.i64.wrap ((i : Int) + 1) = ((i + 1 : Nat) : Int) := by rw [wrap_i64] <;> omega
      have hsp := split_is 32 w (by omega)
      have hww : ∀ x ∈ spB 32 w, x.size ≤ 1000000 := fun x h => by have := spB_word 32 w x h; omega
      obtain ⟨n, x, y, r, hc, hx⟩ := Decomps1_is (spB 32 w) acc hww (by have := spB_len 32 w; omega) (by omega)
      simp only [chart_read_Decomp_b5, d0, d1, d2, if_true, Bool.and_self, Int.toNat_natCast, hg, hsp, Option.bind_some, hc, hwr]
      cases ho : oneDecomp (spB 32 w) acc with
      | none => simp
      | some x =>
        have := hx x ho
        subst this
        simp
        omega
theorem Decomps_is (s : ByteArray) (hs : s.size ≤ 1000000) : chart_Decomps s = some (resR (readR oneDecomp (linesOf s) [] 0)) := by
  unfold chart_Decomps
  rw [readDecomp_is s hs]; rfl
end Go.Pc

namespace Go.Pc
open Go Go.Sx Go.Tx
abbrev Dc := Int × List Int × Bool × Bool
def zD : Dc := (0, [], false, false)
def Rise (D : List Dc) : Prop := D.Pairwise (fun a b => a.1 < b.1)
def hit (p : Int) (c : Bool) (d : Dc) : Bool := d.1 == p && (c || !d.2.2.1)
def fnd (D : List Dc) (p : Int) (c : Bool) : Option Dc := D.find? (hit p c)

theorem rise_lt {D : List Dc} (h : Rise D) {i j : Nat} (hij : i < j) (hj : j < D.length) : (D.getD i zD).1 < (D.getD j zD).1 := by
  have := List.pairwise_iff_getElem.1 h i j (by omega) hj hij
  simpa [List.getD, List.getElem?_eq_getElem (show i < D.length by omega), List.getElem?_eq_getElem hj] using this

theorem cmpF_is (x y : Int) : cmp_Compare_uint32 x y = some (if x < y then -1 else if x > y then 1 else 0) := by
  unfold cmp_Compare_uint32 cmp_isNaN_uint32
  simp only [bne_self_eq_false, Option.bind_some, Bool.false_eq_true, if_false]
  by_cases h : x < y
  · simp [h]
  · by_cases h2 : x > y
    · simp [h, h2]
    · simp [h, h2]
theorem line1_is (d : Dc) (p : Int) : tables_Tables_line_1 d.1 d.2.2.1 d.2.2.2 p d.2.1 = some (if d.1 < p then -1 else if d.1 > p then 1 else 0, d.2.1) := by
  unfold tables_Tables_line_1
  rw [cmpF_is]; rfl
theorem mid_is (i j : Int) (h0 : 0 ≤ i) (h1 : i < j) (h2 : j ≤ 1000000) : IntKind.i64.wrap (Int.fdiv (IntKind.u64.wrap (IntKind.i64.wrap (i + j))) 2) = (i + j) / 2 := by
  rw [wrap_i64 (i + j) (by omega) (by omega), IntKind.wrap_u64, Int.fdiv_eq_ediv_of_nonneg _ (by omega), wrap_i64] <;> omega

theorem bsearch_is (D : List Dc) (p : Int) (hR : Rise D) (hl : D.length ≤ 1000000) :
    ∃ i : Nat, i ≤ D.length ∧ (∀ k, k < i → (D.getD k zD).1 < p) ∧ (∀ k, i ≤ k → k < D.length → p ≤ (D.getD k zD).1) ∧
      slices_BinarySearchFunc__ p D = some ((i : Int), decide (i < D.length) && decide ((D.getD i zD).1 = p), D) := by
  obtain ⟨x, hx, hQ⟩ := runLoop_inv (b := slices_BinarySearchFunc___b3)
    (fun v => ∃ i j : Nat, v = (p, (D.length : Int), (i : Int), (j : Int), D) ∧ i ≤ j ∧ j ≤ D.length ∧ (∀ k, k < i → (D.getD k zD).1 < p) ∧ (∀ k, j ≤ k → k < D.length → p ≤ (D.getD k zD).1))
    (fun v => (v.2.2.2.1 - v.2.2.1).toNat)
    (fun x => ∃ i : Nat, x = (p, (D.length : Int), (i : Int), D) ∧ i ≤ D.length ∧ (∀ k, k < i → (D.getD k zD).1 < p) ∧ (∀ k, i ≤ k → k < D.length → p ≤ (D.getD k zD).1)) (by
      rintro v ⟨i, j, rfl, hij, hj, ha, hb⟩
      by_cases h : i < j
      · left
        have hm := mid_is i j (by omega) (by omega) (by omega)
        obtain ⟨m, hmm⟩ : ∃ m : Nat, ((i : Int) + j) / 2 = m := ⟨((i : Int) + j).toNat / 2, by omega⟩
        have hmi : i ≤ m := by omega
        have hmj : m < j := by omega
        have d0 : decide ((i : Int) < (j : Int)) = true := decide_eq_true (by omega)
        have d1 : decide ((0 : Int) ≤ (m : Int)) = true := decide_eq_true (by omega)
        have d2 : decide ((m : Int) < (D.length : Int)) = true := decide_eq_true (by omega)
        have d3 : decide (m < D.length) = true := decide_eq_true (by omega)
        have hw : IntKind.i64.wrap ((m : Int) + 1) = ((m + 1 : Nat) : Int) := by rw [wrap_i64] <;> omega
        have hline := line1_is (D.getD m zD) p
        unfold zD at hline
        by_cases hc : (D.getD m zD).1 < p
        · refine ⟨(p, (D.length : Int), ((m + 1 : Nat) : Int), (j : Int), D), ?_, ⟨m + 1, j, rfl, by omega, hj, fun k hk => ?_, hb⟩, by simp only; omega⟩
          · have hc' := hc
            unfold zD at hc'
            rw [if_pos hc'] at hline
            simp only [slices_BinarySearchFunc___b3, d0, hm, hmm, d1, d2, d3, Bool.and_self, if_true, Int.toNat_natCast, hline, Option.bind_some, hw]
            rfl
          · by_cases hk' : k = m
            · subst hk'; exact hc
            · have := rise_lt hR (show k < m by omega) (by omega)
              omega
        · refine ⟨(p, (D.length : Int), (i : Int), (m : Int), D), ?_, ⟨i, m, rfl, hmi, by omega, ha, fun k hk hk2 => ?_⟩, by simp only; omega⟩
          · have hc' := hc
            unfold zD at hc'
            rw [if_neg hc'] at hline
            have hg : decide ((if (D.getD m (0, [], false, false)).1 > p then (1 : Int) else 0) < 0) = false := by
              split <;> rfl
            simp only [slices_BinarySearchFunc___b3, d0, hm, hmm, d1, d2, d3, Bool.and_self, if_true, Int.toNat_natCast, hline, Option.bind_some, hg, Bool.false_eq_true, if_false]
          · by_cases hk' : k = m
            · subst hk'; omega
            · have := rise_lt hR (show m < k by omega) hk2
              omega
      · right
        have d0 : decide ((i : Int) < (j : Int)) = false := decide_eq_false (by omega)
        have : i = j := by omega
        subst this
        exact ⟨_, by simp only [slices_BinarySearchFunc___b3, d0, Bool.false_eq_true, if_false], i, rfl, hj, ha, hb⟩)
    (p, (D.length : Int), ((0 : Nat) : Int), (D.length : Int), D) ⟨0, D.length, rfl, by omega, by omega, fun k hk => by omega, fun k h1 h2 => by omega⟩
  obtain ⟨i, rfl, h1, h2, h3⟩ := hQ
  refine ⟨i, h1, h2, h3, ?_⟩
  unfold slices_BinarySearchFunc__
  have hx' : runLoop slices_BinarySearchFunc___b3 (p, (D.length : Int), (0 : Int), (D.length : Int), D) = some (p, (D.length : Int), (i : Int), D) := hx
  rw [hx']
  simp only [Option.bind_some]
  by_cases hi : i < D.length
  · have d0 : decide ((i : Int) < (D.length : Int)) = true := decide_eq_true (by omega)
    have d1 : decide ((0 : Int) ≤ (i : Int)) = true := decide_eq_true (by omega)
    have d3 : decide (i < D.length) = true := decide_eq_true hi
    have hline := line1_is (D.getD i zD) p
    have hge := h3 i (Nat.le_refl _) hi
    rw [if_neg (by omega)] at hline
    unfold zD at hline hge ⊢
    simp only [d0, d1, d3, Bool.and_self, if_true, Int.toNat_natCast]
    rw [hline]
    simp only [Option.bind_some, Bool.true_and]
    by_cases he : (D.getD i (0, [], false, false)).1 = p
    · have e1 : ¬ (D.getD i (0, [], false, false)).1 > p := by omega
      rw [if_neg e1, decide_eq_true he]; rfl
    · have e1 : (D.getD i (0, [], false, false)).1 > p := by omega
      rw [if_pos e1, decide_eq_false he]; rfl
  · have d0 : decide ((i : Int) < (D.length : Int)) = false := decide_eq_false (by omega)
    simp [d0, hi]

theorem fnd_some {D : List Dc} (hR : Rise D) {i : Nat} (hi : i < D.length) {p : Int} (hp : (D.getD i zD).1 = p) (c : Bool) : fnd D p c = if c || !(D.getD i zD).2.2.1 then some (D.getD i zD) else none := by
  have hg : D.getD i zD = D[i] := by simp [List.getD, List.getElem?_eq_getElem hi]
  rw [hg] at hp ⊢
  have huniq : ∀ d ∈ D, d.1 = p → d = D[i] := by
    intro d hd hdp
    obtain ⟨k, hk, rfl⟩ := List.getElem_of_mem hd
    rcases Nat.lt_trichotomy k i with h | h | h
    · have := List.pairwise_iff_getElem.1 hR k i hk hi h
      omega
    · subst h; rfl
    · have := List.pairwise_iff_getElem.1 hR i k hi hk h
      omega
  unfold fnd
  by_cases hc : (c || !D[i].2.2.1) = true
  · rw [if_pos hc]
    cases hf : D.find? (hit p c) with
    | none =>
      have := List.find?_eq_none.1 hf D[i] (List.getElem_mem hi)
      unfold hit at this
      rw [hp, hc] at this
      simp at this
    | some d =>
      have h1 := List.find?_some hf
      have h2 := List.mem_of_find?_eq_some hf
      unfold hit at h1
      simp only [Bool.and_eq_true, beq_iff_eq] at h1
      rw [huniq d h2 h1.1]
  · rw [if_neg hc]
    apply List.find?_eq_none.2
    intro d hd hh
    unfold hit at hh
    simp only [Bool.and_eq_true, beq_iff_eq] at hh
    rw [huniq d hd hh.1] at hh
    exact hc hh.2
theorem fnd_none {D : List Dc} {p : Int} (h : ∀ k, k < D.length → (D.getD k zD).1 ≠ p) (c : Bool) : fnd D p c = none := by
  apply List.find?_eq_none.2
  intro d hd hh
  obtain ⟨k, hk, rfl⟩ := List.getElem_of_mem hd
  unfold hit at hh
  simp only [Bool.and_eq_true, beq_iff_eq] at hh
  have := h k hk
  simp [List.getD, List.getElem?_eq_getElem hk] at this
  exact this hh.1

section
variable (l1 : List (Int × Int × ByteArray × ByteArray × ByteArray × Bool)) (l2 : List (Int × Int × Int)) (D : List Dc) (l4 l5 : List (Int × Int × Int)) (l6 : List (ByteArray × Int × Int))
theorem line_is (hR : Rise D) (hl : D.length ≤ 1000000) (p : Int) (c : Bool) : tables_Tables_line p c l1 l2 D l4 l5 l6 = some (match fnd D p c with
    | some d => (true, d.1, d.2.2.1, d.2.2.2, l1, l2, D, l4, l5, l6, d.2.1)
    | none => (false, 0, false, false, l1, l2, D, l4, l5, l6, [])) := by
  obtain ⟨i, h1, h2, h3, hb⟩ := bsearch_is D p hR hl
  unfold tables_Tables_line
  rw [hb]
  simp only [Option.bind_some]
  by_cases hi : i < D.length
  · have d1 : decide ((0 : Int) ≤ (i : Int)) = true := decide_eq_true (by omega)
    have d2 : decide ((i : Int) < (D.length : Int)) = true := decide_eq_true (by omega)
    have d3 : decide (i < D.length) = true := decide_eq_true hi
    by_cases he : (D.getD i zD).1 = p
    · rw [fnd_some hR hi he c]
      have e1 : decide ((D.getD i zD).1 = p) = true := decide_eq_true he
      simp only [e1, d1, d2, d3, Bool.and_self, Bool.not_true, Bool.false_eq_true, if_false, if_true, Int.toNat_natCast]
      unfold zD
      cases hX : (D.getD i (0, [], false, false)).2.2.1 <;> cases c <;> (try simp only [hX, Bool.not_true, Bool.not_false, Bool.or_true, Bool.or_false, Bool.false_eq_true, if_true, if_false]) <;> rfl
    · have e1 : decide ((D.getD i zD).1 = p) = false := decide_eq_false he
      rw [fnd_none (fun k hk => by
        rcases Nat.lt_trichotomy k i with h | h | h
        · have := h2 k h; omega
        · subst h; exact he
        · have := rise_lt hR h hk
          have := h3 i (Nat.le_refl _) hi
          omega) c]
      simp only [e1, Bool.and_false, Bool.not_false, if_true]
  · have d3 : decide (i < D.length) = false := decide_eq_false hi
    rw [fnd_none (fun k hk => by have := h2 k (by omega); omega) c]
    simp only [d3, Bool.false_and, Bool.not_false, if_true]

def fullL (f : Int → Option (List Int)) : List Int → Option (List Int)
  | [] => some []
  | x :: r => (f x).bind fun a => (fullL f r).bind fun b => some (a ++ b)
def fullS (D : List Dc) (c : Bool) : Nat → Int → Option (List Int)
  | 0, _ => none
  | n + 1, p => match fnd D p c with
    | none => some [p]
    | some d => fullL (fullS D c n) d.2.1

theorem full_loop (c : Bool) (rec : Int → Bool → (List (Int × Int × ByteArray × ByteArray × ByteArray × Bool)) → (List (Int × Int × Int)) → (List Dc) → (List (Int × Int × Int)) → (List (Int × Int × Int)) → (List (ByteArray × Int × Int)) → Option ((List (Int) × List (Int × Int × ByteArray × ByteArray × ByteArray × Bool) × List (Int × Int × Int) × List (Int × List (Int) × Bool × Bool) × List (Int × Int × Int) × List (Int × Int × Int) × List (ByteArray × Int × Int))))
    (f : Int → Option (List Int)) (hrec : ∀ q l, f q = some l → l.length ≤ 1000 → rec q c l1 l2 D l4 l5 l6 = some (l, l1, l2, D, l4, l5, l6)) (tw : List Int) (hto : tw.length ≤ 1000000) :
    ∀ (n i : Nat) (acc r : List Int), n + i = tw.length → fullL f (tw.drop i) = some r → acc.length + r.length ≤ 1000 →
      runLoop (tables_Tables_full_b6 rec) (c, (tw.length : Int), (i : Int), tw, l1, l2, D, l4, l5, l6, acc) = some (acc ++ r, l1, l2, D, l4, l5, l6) := by
  intro n
  induction n with
  | zero =>
    intro i acc r h1 h2 h3
    have : i = tw.length := by omega
    subst this
    rw [List.drop_length] at h2
    cases h2
    have d0 : decide ((tw.length : Int) < (tw.length : Int)) = false := decide_eq_false (by omega)
    rw [List.append_nil]
    exact runLoop_done (by simp only [tables_Tables_full_b6, d0, Bool.false_eq_true, if_false])
  | succ n ih =>
    intro i acc r h1 h2 h3
    have hi : i < tw.length := by omega
    rw [List.drop_eq_getElem_cons hi] at h2
    unfold fullL at h2
    cases hf : f tw[i] with
    | none => rw [hf] at h2; cases h2
    | some a =>
      rw [hf] at h2
      simp only [Option.bind_some] at h2
      cases hg : fullL f (tw.drop (i + 1)) with
      | none => rw [hg] at h2; cases h2
      | some b =>
        rw [hg] at h2
        cases h2
        rw [List.length_append] at h3
        have hr := hrec _ _ hf (by omega)
        have d0 : decide ((i : Int) < (tw.length : Int)) = true := decide_eq_true (by omega)
        have d1 : decide ((0 : Int) ≤ (i : Int)) = true := decide_eq_true (by omega)
        have d2 : decide (i < tw.length) = true := decide_eq_true hi
        have hgd : tw.getD i 0 = tw[i] := by simp [List.getD, List.getElem?_eq_getElem hi]
        have hw : IntKind.i64.wrap ((i : Int) + 1) = ((i + 1 : Nat) : Int) := by rw [wrap_i64] <;> omega
        have hlen : decide ((acc.length + a.length) * 4 ≤ 140737488355328) = true := decide_eq_true (by omega)
        rw [runLoop_step (v' := (c, (tw.length : Int), ((i + 1 : Nat) : Int), tw, l1, l2, D, l4, l5, l6, acc ++ a)) (by simp only [tables_Tables_full_b6, d0, d1, d2, Bool.and_self, if_true, Int.toNat_natCast, hgd, hr, Option.bind_some, hlen, hw])]
        rw [ih (i + 1) (acc ++ a) b (by omega) hg (by rw [List.length_append]; omega), List.append_assoc]

theorem full_n (hR : Rise D) (hl : D.length ≤ 1000000) (hT : ∀ d ∈ D, d.2.1.length ≤ 1000000) (c : Bool) : ∀ (n : Nat) (p : Int) (l : List Int), fullS D c n p = some l → l.length ≤ 1000 →
    tables_Tables_full_n n p c l1 l2 D l4 l5 l6 = some (l, l1, l2, D, l4, l5, l6) := by
  intro n
  induction n with
  | zero => intro p l h; cases h
  | succ n ih =>
    intro p l h hlen
    unfold fullS at h
    unfold tables_Tables_full_n tables_Tables_full_r
    rw [line_is l1 l2 D l4 l5 l6 hR hl]
    cases hf : fnd D p c with
    | none =>
      rw [hf] at h
      cases h
      rfl
    | some d =>
      rw [hf] at h
      have hd := hT d (List.mem_of_find?_eq_some hf)
      have key := full_loop l1 l2 D l4 l5 l6 c (tables_Tables_full_n n) (fullS D c n) ih d.2.1 hd d.2.1.length 0 [] l (by omega) (by rw [List.drop_zero]; exact h) (by simpa using hlen)
      simp only [Option.bind_some, Bool.not_true, Bool.false_eq_true, if_false]
      have key' : runLoop (tables_Tables_full_b6 (tables_Tables_full_n n)) (c, (d.2.1.length : Int), (0 : Int), d.2.1, l1, l2, D, l4, l5, l6, []) = some ([] ++ l, l1, l2, D, l4, l5, l6) := key
      rw [key']
      rfl
theorem full_is (hR : Rise D) (hl : D.length ≤ 1000000) (hT : ∀ d ∈ D, d.2.1.length ≤ 1000000) (c : Bool) (p : Int) (l : List Int) (h : fullS D c 64 p = some l) (hlen : l.length ≤ 1000) :
    tables_Tables_full p c l1 l2 D l4 l5 l6 = some (l, l1, l2, D, l4, l5, l6) := full_n l1 l2 D l4 l5 l6 hR hl hT c 64 p l h hlen
end
end Go.Pc
