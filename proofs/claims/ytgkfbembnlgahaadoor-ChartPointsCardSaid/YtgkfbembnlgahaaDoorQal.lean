/- Part 12 of the proof of the statement that the last part names; it asks for no condition of its own. Here: PcFmt, PcPoint, PcCp, PcSplit, PcRead, PcRead2, PcCp2, PcCp3, PcAw, PcCp4, TxRun. -/
import Derived.Test.YtgkfbembnlgahaaDoorQag
import Derived.Test.YtgkfbembnlgahaaDoorQak
import Derived.KernelRfl
import Derived.Test.YtgkfbembnlgahaaDoorQaj
import Derived.Laws.Bits64
import Derived.Test.YtgkfbembnlgahaaDoorQae
import Derived.Lib.SplitLaws
import Derived.Test.YtgkfbembnlgahaaDoorQai
set_option linter.unusedVariables false
set_option linter.unusedSimpArgs false
set_option maxRecDepth 100000
set_option maxHeartbeats 0
namespace Go.Pc
open Go Go.Sx Go.Tx
def digs (u : Int) : List Int :=
  if u < 16 then [u] else if u / 16 < 16 then [u / 16, u % 16] else if u / 16 / 16 < 16 then [u / 16 / 16, u / 16 % 16, u % 16]
  else if u / 16 / 16 / 16 < 16 then [u / 16 / 16 / 16, u / 16 / 16 % 16, u / 16 % 16, u % 16]
  else if u / 16 / 16 / 16 / 16 < 16 then [u / 16 / 16 / 16 / 16, u / 16 / 16 / 16 % 16, u / 16 / 16 % 16, u / 16 % 16, u % 16]
  else [u / 16 / 16 / 16 / 16 / 16, u / 16 / 16 / 16 / 16 % 16, u / 16 / 16 / 16 % 16, u / 16 / 16 % 16, u / 16 % 16, u % 16]
def low36 : List UInt8 := [48, 49, 50, 51, 52, 53, 54, 55, 56, 57, 97, 98, 99, 100, 101, 102, 103, 104, 105, 106, 107, 108, 109, 110, 111, 112, 113, 114, 115, 116, 117, 118, 119, 120, 121, 122]
def lowD (q : Int) : Int := (((low36.getD q.toNat 0).toNat : Nat) : Int)
theorem and15 (q : Int) (h0 : 0 ≤ q) (h1 : q ≤ 1114111) : IntKind.u64.wrap (((BitVec.toNat (BitVec.and (BitVec.ofInt 64 q) (BitVec.ofInt 64 (15 : Int)))) : Nat) : Int) = q % 16 := by
  have e : BitVec.toNat (BitVec.and (BitVec.ofInt 64 q) (BitVec.ofInt 64 (15 : Int))) = q.toNat % 16 := by
    show BitVec.toNat (BitVec.ofInt 64 q &&& BitVec.ofInt 64 (15 : Int)) = _
    rw [BitVec.toNat_and, BitVec.toNat_ofInt, BitVec.toNat_ofInt]
    have e1 : (q % ((2 ^ 64 : Nat) : Int)).toNat = q.toNat := by omega
    have e2 : ((15 : Int) % ((2 ^ 64 : Nat) : Int)).toNat = 2 ^ 4 - 1 := by decide
    rw [e1, e2, Nat.and_two_pow_sub_one_eq_mod]
  rw [e]
  unfold IntKind.wrap
  have e3 : (2 ^ IntKind.u64.bits : Int) = 18446744073709551616 := by decide
  have e4 : IntKind.u64.signed = false := rfl
  simp only [e3, e4, Bool.false_and, Bool.false_eq_true, if_false]
  omega
theorem isPow : internal_strconv_isPowerOfTwo (16 : Int) = some true := by kernel_rfl
theorem tz16 : math_bits_TrailingZeros (16 : Int) = some 4 := by kernel_rfl
theorem sh16 : Int.pow (2 : Int) (if ((Go.IntKind.wrap .u64 (4 : Int)).toNat ≤ 64) then (Go.IntKind.wrap .u64 (4 : Int)).toNat else 64) = 16 := by kernel_rfl
theorem sh0 : (0 : Int) ≤ Go.IntKind.wrap .u64 (4 : Int) := by decide
theorem fd (q : Int) (h : 0 ≤ q) : Int.fdiv q 16 = q / 16 := Int.fdiv_eq_ediv_of_nonneg q (by omega)
theorem bits_is (u : Int) (h0 : 0 ≤ u) (h1 : u ≤ 1114111) : internal_strconv_formatBits u = some (textOf ((digs u).map lowD), []) := by
  unfold internal_strconv_formatBits
  rw [isPow, Option.bind_some, itT, tz16, Option.bind_some, sh16]
  unfold digs
  by_cases c0 : u < 16
  · rw [it0 (by omega), it2 (by omega) (by omega), if_pos c0]
    rfl
  rw [if_neg c0, it1 (by omega), fd u h0, and15 u h0 h1, it2 (by omega) (by omega), it1 sh0]
  by_cases c1 : u / 16 < 16
  · rw [it0 (by omega), it2 (by omega) (by omega), if_pos c1]
    rfl
  rw [if_neg c1, it1 (by omega), fd (u / 16) (by omega), and15 (u / 16) (by omega) (by omega), it2 (by omega) (by omega), it1 sh0]
  by_cases c2 : u / 16 / 16 < 16
  · rw [it0 (by omega), it2 (by omega) (by omega), if_pos c2]
    rfl
  rw [if_neg c2, it1 (by omega), fd (u / 16 / 16) (by omega), and15 (u / 16 / 16) (by omega) (by omega), it2 (by omega) (by omega), it1 sh0]
  by_cases c3 : u / 16 / 16 / 16 < 16
  · rw [it0 (by omega), it2 (by omega) (by omega), if_pos c3]
    rfl
  rw [if_neg c3, it1 (by omega), fd (u / 16 / 16 / 16) (by omega), and15 (u / 16 / 16 / 16) (by omega) (by omega), it2 (by omega) (by omega), it1 sh0]
  by_cases c4 : u / 16 / 16 / 16 / 16 < 16
  · rw [it0 (by omega), it2 (by omega) (by omega), if_pos c4]
    rfl
  rw [if_neg c4, it1 (by omega), fd (u / 16 / 16 / 16 / 16) (by omega), and15 (u / 16 / 16 / 16 / 16) (by omega) (by omega), it2 (by omega) (by omega), it1 sh0]
  rw [it0 (by omega), it2 (by omega) (by omega)]
  rfl
theorem format_is (u : Int) (h0 : 0 ≤ u) (h1 : u ≤ 1114111) : strconv_FormatUint u = some (textOf ((digs u).map lowD)) := by
  unfold strconv_FormatUint internal_strconv_FormatUint
  rw [bits_is u h0 h1]
  rfl
end Go.Pc

namespace Go.Pc
open Go Go.Sx Go.Tx
def hexD (b : UInt8) : Prop := (48 ≤ b.toNat ∧ b.toNat ≤ 57) ∨ (65 ≤ b.toNat ∧ b.toNat ≤ 70)
def hexV (b : UInt8) : Nat := if b.toNat ≤ 57 then b.toNat - 48 else b.toNat - 55
def hexN (l : List UInt8) : Nat := l.foldl (fun n b => n * 16 + hexV b) 0

theorem hexV_lt {b : UInt8} (h : hexD b) : hexV b < 16 := by
  unfold hexV
  rcases h with h | h
  · rw [if_pos h.2]; omega
  · rw [if_neg (by omega)]; omega

theorem hexN_lt (l : List UInt8) (h : ∀ b ∈ l, hexD b) : hexN l < 16 ^ l.length := by
  have key : ∀ (l : List UInt8) (a k : Nat), (∀ b ∈ l, hexD b) → a < 16 ^ k → l.foldl (fun n b => n * 16 + hexV b) a < 16 ^ (k + l.length) := by
    intro l
    induction l with
    | nil => intro a k _ ha; exact ha
    | cons b r ih =>
      intro a k h ha
      rw [List.foldl_cons, List.length_cons, Nat.add_comm r.length 1, ← Nat.add_assoc]
      refine ih _ (k + 1) (fun b hb => h b (by simp [hb])) ?_
      have := hexV_lt (h b (by simp))
      rw [Nat.pow_succ]
      omega
  have := key l 0 0 h (by simp)
  rwa [Nat.zero_add] at this

def digitsB : ByteArray := ⟨#[48, 49, 50, 51, 52, 53, 54, 55, 56, 57, 65, 66, 67, 68, 69, 70]⟩
def isPt (s : ByteArray) : Bool := decide (4 ≤ s.size) && decide (s.size ≤ 6) && allIn digitsB s && !(decide (4 < s.size) && (s.data.toList.getD 0 0 == 48))
def ptN (s : ByteArray) : Nat := if isPt s then hexN s.data.toList else 0
def ptOK (s : ByteArray) : Bool := isPt s && decide (hexN s.data.toList ≤ 1114111)

theorem low_digits : Low digitsB := by unfold Low digitsB; decide
theorem hexD_of {s : ByteArray} (h : allIn digitsB s = true) : ∀ b ∈ s.data.toList, hexD b := by
  intro b hb
  unfold allIn at h
  rw [List.all_eq_true] at h
  have := h b hb
  unfold digitsB at this
  simp at this
  unfold hexD
  rcases this with h | h | h | h | h | h | h | h | h | h | h | h | h | h | h | h <;> subst h <;> decide


theorem lower_is (c : Nat) (h1 : 65 ≤ c) (h2 : c ≤ 70) : internal_strconv_lower (c : Int) = some ((c : Int) + 32) := by
  have : c = 65 ∨ c = 66 ∨ c = 67 ∨ c = 68 ∨ c = 69 ∨ c = 70 := by omega
  rcases this with rfl | rfl | rfl | rfl | rfl | rfl <;> decide

theorem getD_map_toNat (L : List UInt8) (i : Nat) (b : UInt8) (h : L[i]? = some b) : (L.map (fun x : UInt8 => ((x.toNat : Nat) : Int))).getD i 0 = (b.toNat : Int) := by
  rw [List.getD_eq_getElem?_getD, List.getElem?_map, h]; rfl

theorem parse_loop (s : ByteArray) (h2 : s.size ≤ 6) (h3 : ∀ b ∈ s.data.toList, hexD b) :
    runLoop internal_strconv_ParseUint_b36 (false, s, false, 0, ((s.data.toList.map (fun x : UInt8 => ((x.toNat : Nat) : Int))).length : Int), 0, s.data.toList.map (fun x : UInt8 => ((x.toNat : Nat) : Int))) = some (.inr (s, false, (hexN s.data.toList : Int))) := by
  have hsz : s.data.toList.length = s.size := Array.length_toList
  generalize hL : s.data.toList = L at *
  have hlen : (L.map (fun x : UInt8 => ((x.toNat : Nat) : Int))).length = L.length := List.length_map _
  refine runLoop_to (fun i : Nat => i ≤ L.length) (fun i : Nat => (false, s, false, ((hexN (L.take i) : Nat) : Int), ((L.map (fun x : UInt8 => ((x.toNat : Nat) : Int))).length : Int), (i : Int), L.map (fun x : UInt8 => ((x.toNat : Nat) : Int)))) (fun i => L.length - i) _ ?_ 0 (Nat.zero_le _)
  intro i hi
  by_cases hlt : i < L.length
  · left
    refine ⟨i + 1, ?_, hlt, by omega⟩
    obtain ⟨b, hb⟩ : ∃ b, L[i]? = some b := ⟨_, List.getElem?_eq_getElem hlt⟩
    have hbd := h3 b (List.mem_of_getElem? hb)
    have hn : hexN (L.take i) ≤ 1048575 := by
      have := hexN_lt (L.take i) (fun b hb => h3 b (List.mem_of_mem_take hb))
      have hl : (L.take i).length ≤ 5 := by rw [List.length_take]; omega
      have : 16 ^ (L.take i).length ≤ 16 ^ 5 := Nat.pow_le_pow_right (by omega) hl
      omega
    have hst : hexN (L.take (i + 1)) = hexN (L.take i) * 16 + hexV b := by
      rw [List.take_add_one, hb]
      simp [hexN]
    rw [hst]
    generalize hexN (L.take i) = n at *
    have w1 : IntKind.u8.wrap 16 = 16 := by decide
    have w2 : IntKind.u64.wrap 16 = 16 := by decide
    have w3 : IntKind.u64.wrap ((n : Int) * 16) = n * 16 := by rw [IntKind.wrap_u64]; omega
    have w4 : IntKind.i64.wrap ((i : Int) + 1) = ((i + 1 : Nat) : Int) := by rw [wrap_i64] <;> omega
    have d0 : decide ((i : Int) < (L.length : Int)) = true := decide_eq_true (by omega)
    have d1 : decide ((0 : Int) ≤ (i : Int)) = true := decide_eq_true (by omega)
    have d2 : decide ((n : Int) ≥ 1152921504606846976) = false := decide_eq_false (by omega)
    have g := getD_map_toNat L i b hb
    rcases hbd with ⟨e1, e2⟩ | ⟨e1, e2⟩
    · have hv : hexV b = b.toNat - 48 := by unfold hexV; rw [if_pos e2]
      have w5 : IntKind.u8.wrap ((b.toNat : Int) - 48) = ((b.toNat - 48 : Nat) : Int) := by rw [IntKind.wrap_u8]; omega
      have w6 : IntKind.u64.wrap ((b.toNat - 48 : Nat) : Int) = ((b.toNat - 48 : Nat) : Int) := by rw [IntKind.wrap_u64]; omega
      have w7 : IntKind.u64.wrap ((n : Int) * 16 + ((b.toNat - 48 : Nat) : Int)) = ((n * 16 + (b.toNat - 48) : Nat) : Int) := by rw [IntKind.wrap_u64]; omega
      have c1 : decide ((b.toNat : Int) = 95) = false := decide_eq_false (by omega)
      have c2 : decide ((48 : Int) ≤ b.toNat) = true := decide_eq_true (by omega)
      have c3 : decide ((b.toNat : Int) ≤ 57) = true := decide_eq_true (by omega)
      have c4 : decide (((b.toNat - 48 : Nat) : Int) ≥ 16) = false := decide_eq_false (by omega)
      have c5 : decide (((n * 16 + (b.toNat - 48) : Nat) : Int) < (n : Int) * 16) = false := decide_eq_false (by omega)
      have c6 : decide (((n * 16 + (b.toNat - 48) : Nat) : Int) > 4294967295) = false := decide_eq_false (by omega)
      simp only [internal_strconv_ParseUint_b36, hlen, d0, d1, Int.toNat_natCast, decide_eq_true hlt, Bool.and_self, if_true, g, c1, Bool.false_eq_true, if_false, c2, c3, w1, w2, w3, w4, w5, w6, w7, c4, d2, c5, c6, hv]
    · have hv : hexV b = b.toNat - 55 := by unfold hexV; rw [if_neg (by omega)]
      have lw := lower_is b.toNat e1 e2
      have w5 : IntKind.u8.wrap ((b.toNat : Int) + 32 - 97) = ((b.toNat - 65 : Nat) : Int) := by rw [IntKind.wrap_u8]; omega
      have w6 : IntKind.u8.wrap (((b.toNat - 65 : Nat) : Int) + 10) = ((b.toNat - 55 : Nat) : Int) := by rw [IntKind.wrap_u8]; omega
      have w8 : IntKind.u64.wrap ((b.toNat - 55 : Nat) : Int) = ((b.toNat - 55 : Nat) : Int) := by rw [IntKind.wrap_u64]; omega
      have w7 : IntKind.u64.wrap ((n : Int) * 16 + ((b.toNat - 55 : Nat) : Int)) = ((n * 16 + (b.toNat - 55) : Nat) : Int) := by rw [IntKind.wrap_u64]; omega
      have c1 : decide ((b.toNat : Int) = 95) = false := decide_eq_false (by omega)
      have c2 : decide ((48 : Int) ≤ b.toNat) = true := decide_eq_true (by omega)
      have c3 : decide ((b.toNat : Int) ≤ 57) = false := decide_eq_false (by omega)
      have c4 : decide (((b.toNat - 55 : Nat) : Int) ≥ 16) = false := decide_eq_false (by omega)
      have c5 : decide (((n * 16 + (b.toNat - 55) : Nat) : Int) < (n : Int) * 16) = false := decide_eq_false (by omega)
      have c6 : decide (((n * 16 + (b.toNat - 55) : Nat) : Int) > 4294967295) = false := decide_eq_false (by omega)
      have c7 : decide ((97 : Int) ≤ (b.toNat : Int) + 32) = true := decide_eq_true (by omega)
      have c8 : decide ((b.toNat : Int) + 32 ≤ 122) = true := decide_eq_true (by omega)
      simp only [internal_strconv_ParseUint_b36, hlen, d0, d1, Int.toNat_natCast, decide_eq_true hlt, Bool.and_self, if_true, g, c1, Bool.false_eq_true, if_false, c2, c3, lw, Option.bind_some, c7, c8, w1, w2, w3, w4, w5, w6, w7, w8, c4, d2, c5, c6, hv]
  · right
    have : i = L.length := by omega
    subst this
    have d0 : decide ((L.length : Int) < (L.length : Int)) = false := decide_eq_false (by omega)
    simp only [internal_strconv_ParseUint_b36, hlen, d0, Bool.false_eq_true, if_false]
    rw [List.take_of_length_le (Nat.le_refl _)]

theorem parse_is (s : ByteArray) (h1 : 1 ≤ s.size) (h2 : s.size ≤ 6) (h3 : ∀ b ∈ s.data.toList, hexD b) : strconv_ParseUint s = some (hexN s.data.toList : Int) := by
  have hsz : s.data.toList.length = s.size := Array.length_toList
  have hne : List.beq (ByteArray.toList s) (ByteArray.toList (ByteArray.mk (List.toArray []))) = false := by
    rw [ByteArray.toList_eq, ByteArray.toList_eq]
    cases hq : s.data.toList with
    | nil => rw [hq] at hsz; simp at hsz; omega
    | cons x r => rfl
  unfold strconv_ParseUint internal_strconv_ParseUint
  simp only [hne, Bool.false_eq_true, if_false, decide_eq_true (by omega : s.size ≤ 9223372036854775807), if_true]
  rw [parse_loop s h2 h3]
  rfl

theorem digits_eq : (ByteArray.mk (List.toArray [(48 : UInt8), (49 : UInt8), (50 : UInt8), (51 : UInt8), (52 : UInt8), (53 : UInt8), (54 : UInt8), (55 : UInt8), (56 : UInt8), (57 : UInt8), (65 : UInt8), (66 : UInt8), (67 : UInt8), (68 : UInt8), (69 : UInt8), (70 : UInt8)])) = digitsB := rfl

theorem point_is (s : ByteArray) (hs : s.size ≤ 9223372036854775807) : chart_point s = some ((ptN s : Int), ptOK s) := by
  unfold chart_point
  rw [digits_eq, made_is s digitsB 4 6 low_digits hs]
  simp only [Option.bind_some]
  by_cases hm : (decide ((4 : Int) ≤ (s.size : Int)) && decide ((s.size : Int) ≤ 6) && allIn digitsB s) = true
  · have hm' := hm
    simp only [Bool.and_eq_true, decide_eq_true_eq] at hm'
    obtain ⟨⟨h4, h6⟩, ha⟩ := hm'
    have hx := hexD_of ha
    have hb : hexN s.data.toList < 16 ^ 6 := by
      have h1 := hexN_lt s.data.toList hx
      have h2 : s.data.toList.length = s.size := Array.length_toList
      have : 16 ^ s.data.toList.length ≤ 16 ^ 6 := Nat.pow_le_pow_right (by omega) (by omega)
      omega
    have hu : IntKind.u32.wrap (hexN s.data.toList : Int) = hexN s.data.toList := by rw [IntKind.wrap_u32]; omega
    have hp := parse_is s (by omega) (by omega) hx
    have hle : decide ((hexN s.data.toList : Int) ≤ 1114111) = decide (hexN s.data.toList ≤ 1114111) := by rw [Bool.eq_iff_iff, decide_eq_true_eq, decide_eq_true_eq]; omega
    simp only [hm, Bool.not_true, Bool.false_eq_true, if_false, hp, Option.bind_some, hu, hle]
    have e4 : decide (4 ≤ s.size) = true := decide_eq_true (by omega)
    have e6 : decide (s.size ≤ 6) = true := decide_eq_true (by omega)
    by_cases h5 : 4 < s.size
    · have g5 : decide ((s.size : Int) > 4) = true := decide_eq_true (by omega)
      have g0 : decide ((0 : Int) < (s.size : Int)) = true := decide_eq_true (by omega)
      simp only [g5, g0, if_true]
      by_cases hz : s.data.toList.getD 0 0 = 48
      · have : decide (((s.data.toList.getD 0 (0 : UInt8)).toNat : Int) = 48) = true := decide_eq_true (by show ((s.data.toList.getD 0 0).toNat : Int) = 48; rw [hz]; rfl)
        simp only [this, if_true]
        have hf : isPt s = false := by unfold isPt; rw [e4, e6, ha, decide_eq_true h5, hz]; rfl
        simp [ptN, ptOK, hf]
      · have : decide (((s.data.toList.getD 0 (0 : UInt8)).toNat : Int) = 48) = false := decide_eq_false (fun e => hz (UInt8.toNat_inj.1 (by have : (48 : UInt8).toNat = 48 := rfl; have e' : ((s.data.toList.getD 0 0).toNat : Int) = 48 := e; omega)))
        simp only [this, Bool.false_eq_true, if_false]
        have hf : isPt s = true := by unfold isPt; rw [e4, e6, ha, decide_eq_true h5]; simp; simpa using hz
        simp [ptN, ptOK, hf]
    · have g5 : decide ((s.size : Int) > 4) = false := decide_eq_false (by omega)
      simp only [g5, Bool.false_eq_true, if_false]
      have hf : isPt s = true := by unfold isPt; rw [e4, e6, ha, decide_eq_false h5]; rfl
      simp [ptN, ptOK, hf]
  · have hm0 : (decide ((4 : Int) ≤ (s.size : Int)) && decide ((s.size : Int) ≤ 6) && allIn digitsB s) = false := by simpa using hm
    simp only [hm0, Bool.not_false, if_true]
    have hf : isPt s = false := by
      unfold isPt
      have e4 : decide (4 ≤ s.size) = decide ((4 : Int) ≤ (s.size : Int)) := by rw [Bool.eq_iff_iff, decide_eq_true_eq, decide_eq_true_eq]; omega
      have e6 : decide (s.size ≤ 6) = decide ((s.size : Int) ≤ 6) := by rw [Bool.eq_iff_iff, decide_eq_true_eq, decide_eq_true_eq]; omega
      rw [e4, e6, hm0]; rfl
    simp [ptN, ptOK, hf]

def spanOK (a b : ByteArray) : Bool := ptOK a && ptOK b && decide (ptN a ≤ ptN b)
theorem span_is (a b : ByteArray) (ha : a.size ≤ 9223372036854775807) (hb : b.size ≤ 9223372036854775807) : chart_span a b = some (spanOK a b, (ptN a : Int), (ptN b : Int)) := by
  unfold chart_span
  rw [point_is a ha, point_is b hb]
  simp only [Option.bind_some]
  have e : decide ((ptN a : Int) ≤ (ptN b : Int)) = decide (ptN a ≤ ptN b) := by rw [Bool.eq_iff_iff, decide_eq_true_eq, decide_eq_true_eq]; omega
  unfold spanOK
  cases ptOK a <;> cases ptOK b <;> simp [e]
end Go.Pc

namespace Go.Pc
open Go Go.Sx Go.Tx
def up16 : List UInt8 := [48, 49, 50, 51, 52, 53, 54, 55, 56, 57, 65, 66, 67, 68, 69, 70]
def upD (q : Int) : UInt8 := up16.getD q.toNat 0
def hexU (u : Int) : List UInt8 := List.replicate (4 - (digs u).length) 48 ++ (digs u).map upD
def txtL (u : Int) : List UInt8 := if u > 1114111 then [63] else hexU u
def txt (u : Int) : ByteArray := ⟨(txtL u).toArray⟩

theorem dig_all {P : Int → Prop} (h : ∀ k : Fin 16, P (k.val : Int)) (q : Int) (h0 : 0 ≤ q) (h1 : q < 16) : P q := by
  have := h ⟨q.toNat, by omega⟩
  have e : ((q.toNat : Nat) : Int) = q := by omega
  rwa [e] at this
theorem lowU (q : Int) (h0 : 0 ≤ q) (h1 : q < 16) : Lib.upperB (UInt8.ofNat (lowD q).toNat) = upD q ∧ (UInt8.ofNat (lowD q).toNat).toNat < 128 :=
  dig_all (P := fun q => Lib.upperB (UInt8.ofNat (lowD q).toNat) = upD q ∧ (UInt8.ofNat (lowD q).toNat).toNat < 128) (by decide) q h0 h1
theorem upV (q : Int) (h0 : 0 ≤ q) (h1 : q < 16) : hexV (upD q) = q.toNat ∧ digitsB.data.toList.contains (upD q) = true ∧ ((upD q == 48) = decide (q = 0)) ∧ upD q ≠ 32 ∧ upD q ≠ 10 :=
  dig_all (P := fun q => hexV (upD q) = q.toNat ∧ digitsB.data.toList.contains (upD q) = true ∧ ((upD q == 48) = decide (q = 0)) ∧ upD q ≠ 32 ∧ upD q ≠ 10) (by decide) q h0 h1
theorem digs_lt (u : Int) (h0 : 0 ≤ u) (h1 : u ≤ 1114111) : ∀ q ∈ digs u, 0 ≤ q ∧ q < 16 := by
  intro q hq
  unfold digs at hq
  split at hq
  · simp only [List.mem_cons, List.not_mem_nil, or_false] at hq; omega
  split at hq
  · simp only [List.mem_cons, List.not_mem_nil, or_false] at hq; omega
  split at hq
  · simp only [List.mem_cons, List.not_mem_nil, or_false] at hq; omega
  split at hq
  · simp only [List.mem_cons, List.not_mem_nil, or_false] at hq; omega
  split at hq
  · simp only [List.mem_cons, List.not_mem_nil, or_false] at hq; omega
  · simp only [List.mem_cons, List.not_mem_nil, or_false] at hq; omega
theorem digs_len (u : Int) : 1 ≤ (digs u).length ∧ (digs u).length ≤ 6 := by
  unfold digs
  split
  · simp
  split
  · simp
  split
  · simp
  split
  · simp
  split <;> simp
theorem digs_val (u : Int) (h0 : 0 ≤ u) : (digs u).foldl (fun n q => n * 16 + q) 0 = u := by
  unfold digs
  split
  · simp
  split
  · simp only [List.foldl_cons, List.foldl_nil]; omega
  split
  · simp only [List.foldl_cons, List.foldl_nil]; omega
  split
  · simp only [List.foldl_cons, List.foldl_nil]; omega
  split
  · simp only [List.foldl_cons, List.foldl_nil]; omega
  · simp only [List.foldl_cons, List.foldl_nil]; omega
theorem digs_head (u : Int) (h0 : 0 ≤ u) (h : 4 < (digs u).length) : ∃ q r, digs u = q :: r ∧ q ≠ 0 := by
  revert h
  unfold digs
  split
  · intro h; simp at h
  split
  · intro h; simp at h
  split
  · intro h; simp at h
  split
  · intro h; simp at h
  split
  · intro h
    exact ⟨_, _, rfl, by omega⟩
  · intro h
    exact ⟨_, _, rfl, by omega⟩
theorem hexU_len (u : Int) : 4 ≤ (hexU u).length ∧ (hexU u).length ≤ 6 ∧ ((hexU u).length = 4 ∨ (hexU u).length = (digs u).length) := by
  have h := digs_len u
  unfold hexU
  rw [List.length_append, List.length_replicate, List.length_map]
  omega
theorem hexU_mem (u : Int) (h0 : 0 ≤ u) (h1 : u ≤ 1114111) : ∀ b ∈ hexU u, digitsB.data.toList.contains b = true ∧ b ≠ 32 ∧ b ≠ 10 := by
  intro b hb
  unfold hexU at hb
  rcases List.mem_append.1 hb with hb | hb
  · rw [List.eq_of_mem_replicate hb]
    exact ⟨by decide, by decide, by decide⟩
  · obtain ⟨q, hq, rfl⟩ := List.mem_map.1 hb
    have hl := digs_lt u h0 h1 q hq
    have hv := upV q hl.1 hl.2
    exact ⟨hv.2.1, hv.2.2.2.1, hv.2.2.2.2⟩
theorem hexN_rep (k : Nat) (l : List UInt8) : hexN (List.replicate k 48 ++ l) = hexN l := by
  induction k with
  | zero => rfl
  | succ k ih =>
    rw [List.replicate_succ, List.cons_append]
    have : hexN (48 :: (List.replicate k 48 ++ l)) = hexN (List.replicate k 48 ++ l) := rfl
    rw [this, ih]
theorem hexN_digs : ∀ (l : List Int) (n : Nat) (m : Int), (∀ q ∈ l, 0 ≤ q ∧ q < 16) → m = (n : Int) → (((l.map upD).foldl (fun n b => n * 16 + hexV b) n : Nat) : Int) = l.foldl (fun n q => n * 16 + q) m
  | [], n, m, h, hm => hm.symm
  | q :: l, n, m, h, hm => by
    have hq := h q List.mem_cons_self
    have hv := (upV q hq.1 hq.2).1
    simp only [List.map_cons, List.foldl_cons]
    exact hexN_digs l _ _ (fun q hq => h q (List.mem_cons_of_mem _ hq)) (by rw [hv, hm]; omega)
theorem hexU_val (u : Int) (h0 : 0 ≤ u) (h1 : u ≤ 1114111) : ((hexN (hexU u) : Nat) : Int) = u := by
  unfold hexU
  rw [hexN_rep]
  have h := hexN_digs (digs u) 0 0 (digs_lt u h0 h1) rfl
  rw [digs_val u h0] at h
  exact h
theorem txt_sz (u : Int) : (txt u).size = (txtL u).length := by
  show (txtL u).toArray.size = _
  simp
theorem hexU_pt (u : Int) (h0 : 0 ≤ u) (h1 : u ≤ 1114111) : isPt (txt u) = true := by
  have e : txtL u = hexU u := if_neg (by omega)
  have hl := hexU_len u
  unfold isPt
  rw [txt_sz, e]
  have h1' : allIn digitsB (txt u) = true := by
    unfold allIn
    rw [List.all_eq_true]
    intro b hb
    have hb' : b ∈ hexU u := by
      have : (txt u).data.toList = txtL u := by simp [txt]
      rwa [this, e] at hb
    exact (hexU_mem u h0 h1 b hb').1
  rw [h1']
  have h2 : (decide (4 < (hexU u).length) && ((txt u).data.toList.getD 0 0 == 48)) = false := by
    by_cases h4 : 4 < (hexU u).length
    · have hd : (digs u).length = (hexU u).length := by omega
      obtain ⟨q, r, hq, hne⟩ := digs_head u h0 (by omega)
      have hq' := digs_lt u h0 h1 q (by rw [hq]; exact List.mem_cons_self)
      have : (txt u).data.toList = upD q :: r.map upD := by
        have e2 : (txt u).data.toList = txtL u := by simp [txt]
        rw [e2, e]
        unfold hexU
        rw [show 4 - (digs u).length = 0 by omega, hq]
        rfl
      rw [this]
      have hv := (upV q hq'.1 hq'.2).2.2.1
      show (_ && (upD q == 48)) = false
      rw [hv, decide_eq_false hne, Bool.and_false]
    · rw [decide_eq_false h4, Bool.false_and]
  rw [h2, decide_eq_true hl.1, decide_eq_true hl.2.1]
  rfl
theorem txt_pt (u : Int) (h0 : 0 ≤ u) : ptOK (txt u) = decide (u ≤ 1114111) ∧ (u ≤ 1114111 → ((ptN (txt u) : Nat) : Int) = u) := by
  by_cases h1 : u ≤ 1114111
  · have hp := hexU_pt u h0 h1
    have e : (txt u).data.toList = hexU u := by
      have e2 : (txt u).data.toList = txtL u := by simp [txt]
      rw [e2]
      exact if_neg (by omega)
    have hv := hexU_val u h0 h1
    unfold ptOK ptN
    rw [if_pos hp, hp, e, decide_eq_true h1]
    exact ⟨by rw [decide_eq_true (by omega)]; rfl, fun _ => hv⟩
  · refine ⟨?_, fun h => absurd h h1⟩
    have e : txt u = ⟨#[63]⟩ := by
      have e2 : txtL u = [63] := if_pos (by omega)
      unfold txt
      rw [e2]
    rw [e, decide_eq_false h1]
    decide
end Go.Pc

namespace Go.Pc
open Go Go.Sx Go.Tx
def spl (c : UInt8) : List UInt8 → List (List UInt8)
  | [] => [[]]
  | b :: r => if b = c then [] :: spl c r else match spl c r with
    | [] => [[b]]
    | w :: ws => (b :: w) :: ws

theorem splitK_spl (c : UInt8) : ∀ s : List UInt8, Lib.splitK [c] 0 (Lib.count s [c]) s = spl c s
  | [] => by rw [Lib.count_one]; rfl
  | b :: l => by
    have ih := splitK_spl c l
    by_cases h : b = c
    · subst h
      have hix : Lib.index (b :: l) [b] = ((0 : Nat) : Int) := by rw [Lib.index]; simp [List.isPrefixOf]
      rw [Lib.count_cons_eq, Nat.add_comm 1, Lib.splitK, if_neg (by rw [hix]; simp), hix, spl, if_pos rfl]
      simpa using ih
    · rw [Lib.count_cons_ne b c l h, spl, if_neg h, ← ih]
      have hp : ([c] : List UInt8).isPrefixOf (b :: l) = false := by simp [List.isPrefixOf, Ne.symm h]
      have hix : Lib.index (b :: l) [c] = if Lib.index l [c] == -1 then -1 else Lib.index l [c] + 1 := by rw [Lib.index, hp]; simp
      generalize Lib.count l [c] = k
      cases k with
      | zero => rfl
      | succ k =>
        by_cases hm : Lib.index l [c] = -1
        · rw [Lib.splitK, Lib.splitK, if_pos (by rw [hix, hm]; rfl), if_pos (by rw [hm]; rfl)]
        · have hge := Lib.index_ge l [c]
          obtain ⟨j, hj⟩ : ∃ j : Nat, Lib.index l [c] = j := ⟨(Lib.index l [c]).toNat, by omega⟩
          have hix' : Lib.index (b :: l) [c] = ((j + 1 : Nat) : Int) := by rw [hix, if_neg (fun e => hm (beq_iff_eq.1 e)), hj]; omega
          have n1 : ¬ ((Lib.index (b :: l) [c] == -1) = true) := fun e => by have := beq_iff_eq.1 e; omega
          have n2 : ¬ ((Lib.index l [c] == -1) = true) := fun e => by have := beq_iff_eq.1 e; omega
          rw [Lib.splitK, Lib.splitK, if_neg n1, if_neg n2, hix', hj]
          simp only [Int.toNat_natCast, Nat.add_zero, List.length_cons, List.length_nil, List.take_succ_cons, Nat.zero_add]
          rw [show j + 1 + 1 = (j + 1) + 1 from rfl, List.drop_succ_cons]

def spB (c : UInt8) (s : ByteArray) : List ByteArray := (spl c s.data.toList).map (fun l => ⟨l.toArray⟩)

theorem bytes_of (s : ByteArray) : (⟨s.data.toList.toArray⟩ : ByteArray) = s := by cases s; simp

theorem splitB_spl (c : UInt8) (s : ByteArray) : Lib.splitB ⟨#[c]⟩ 0 (Lib.countB s ⟨#[c]⟩) s = spB c s := by
  have h := Lib.splitB_data ⟨#[c]⟩ 0 (Lib.countB s ⟨#[c]⟩) s
  have h2 : Lib.countB s ⟨#[c]⟩ = Lib.count s.data.toList [c] := rfl
  have h3 := splitK_spl c s.data.toList
  unfold spB
  rw [← h3, ← h2, ← h, List.map_map]
  conv => lhs; rw [← List.map_id (Lib.splitB _ _ _ _)]
  apply List.map_congr_left
  intro x _
  simp [bytes_of]

theorem split_is (c : UInt8) (s : ByteArray) (h : s.size < 4294967281) : strings_Split s (ByteArray.mk (List.toArray [c])) = some (spB c s) := by
  have : (1 : Nat) ≤ (ByteArray.mk (List.toArray [c])).size := by simp [ByteArray.size]
  rw [strings_Split, if_pos ⟨h, this⟩]
  exact congrArg some (splitB_spl c s)

theorem spl_len (c : UInt8) : ∀ s : List UInt8, (spl c s).length ≤ s.length + 1
  | [] => by simp [spl]
  | b :: r => by
    have := spl_len c r
    unfold spl
    split
    · simp; omega
    · split
      · simp
      · rename_i h; rw [h] at this; simp at this ⊢; omega

theorem spl_word (c : UInt8) : ∀ (s : List UInt8) (w), w ∈ spl c s → w.length ≤ s.length
  | [], w, h => by simp [spl] at h; subst h; simp
  | b :: r, w, h => by
    unfold spl at h
    split at h
    · rcases List.mem_cons.1 h with rfl | h
      · simp
      · have := spl_word c r w h; simp; omega
    · split at h
      · simp at h; subst h; simp
      · rename_i w' ws e
        rcases List.mem_cons.1 h with rfl | h
        · have := spl_word c r w' (by rw [e]; simp); simp; omega
        · have := spl_word c r w (by rw [e]; simp [h]); simp; omega

theorem spB_len (c : UInt8) (s : ByteArray) : (spB c s).length ≤ s.size + 1 := by
  have := spl_len c s.data.toList
  rw [spB, List.length_map]
  rwa [Array.length_toList] at this
theorem spB_word (c : UInt8) (s w : ByteArray) (h : w ∈ spB c s) : w.size ≤ s.size := by
  obtain ⟨l, hl, rfl⟩ := List.mem_map.1 h
  have := spl_word c s.data.toList l hl
  rw [Array.length_toList] at this
  show l.toArray.size ≤ s.data.size
  rwa [List.size_toArray]
end Go.Pc

namespace Go.Pc
open Go Go.Sx Go.Tx
def readR {T : Type} (one : List ByteArray → List T → Option T) : List (List ByteArray) → List T → Nat → List T ⊕ Nat
  | [], acc, _ => .inl acc
  | w :: r, acc, i => match one w acc with
    | none => .inr (i + 1)
    | some x => readR one r (acc ++ [x]) (i + 1)
def linesOf (s : ByteArray) : List (List ByteArray) := if s.size = 0 then [] else (spB 10 s).map (spB 32)
def resR {T : Type} (r : List T ⊕ Nat) : Int × Int × List T := match r with
  | .inl l => (0, 0, l)
  | .inr k => (3, (k : Int), [])
def outR {T : Type} (r : List T ⊕ Nat) : List T ⊕ (Int × Int) := match r with
  | .inl l => .inl l
  | .inr k => .inr (3, (k : Int))

theorem beq_nil (s : ByteArray) : List.beq (ByteArray.toList s) (ByteArray.toList (ByteArray.mk (List.toArray []))) = decide (s.size = 0) := by
  have hsz : s.data.toList.length = s.size := Array.length_toList
  rw [ByteArray.toList_eq, ByteArray.toList_eq]
  cases hq : s.data.toList with
  | nil => rw [hq] at hsz; simp at hsz; rw [decide_eq_true hsz.symm]; rfl
  | cons x r => rw [hq] at hsz; simp at hsz; rw [decide_eq_false (by omega)]; rfl

theorem read_go {T : Type} (b : Int × Int × List ByteArray × List T → Option ((Int × Int × List ByteArray × List T) ⊕ (List T ⊕ (Int × Int)))) (one : List ByteArray → List T → Option T) (L : List ByteArray)
    (hend : ∀ acc, b ((L.length : Int), (L.length : Int), L, acc) = some (.inr (.inl acc)))
    (hstep : ∀ (i : Nat) (acc : List T) (w : ByteArray), L[i]? = some w → acc.length = i → i < L.length → b ((L.length : Int), (i : Int), L, acc) = some (match one (spB 32 w) acc with
      | none => .inr (.inr (3, ((i + 1 : Nat) : Int)))
      | some x => .inl ((L.length : Int), ((i + 1 : Nat) : Int), L, acc ++ [x]))) :
    ∀ (n i : Nat) (acc : List T), n + i = L.length → acc.length = i → runLoop b ((L.length : Int), (i : Int), L, acc) = some (outR (readR one ((L.drop i).map (spB 32)) acc i)) := by
  intro n
  induction n with
  | zero =>
    intro i acc h1 h2
    have : i = L.length := by omega
    subst this
    rw [runLoop_done (hend acc), List.drop_length]; rfl
  | succ n ih =>
    intro i acc h1 h2
    have hi : i < L.length := by omega
    have hs := hstep i acc L[i] (List.getElem?_eq_getElem hi) h2 hi
    rw [List.drop_eq_getElem_cons hi, List.map_cons]
    unfold readR
    cases ho : one (spB 32 L[i]) acc with
    | none => rw [ho] at hs; rw [runLoop_done hs]; rfl
    | some x => rw [ho] at hs; rw [runLoop_step hs]; exact ih (i + 1) (acc ++ [x]) (by omega) (by simp [h2])

def behindI (e : Option Int) (f : Int) : Bool := match e with
  | none => true
  | some x => decide (x < f)
theorem last_cases {T : Type} (l : List T) : l = [] ∨ ∃ i x, l = i ++ [x] := by
  rcases List.eq_nil_or_concat l with h | ⟨i, x, h⟩
  · exact .inl h
  · exact .inr ⟨i, x, by rw [h, List.concat_eq_append]⟩
theorem getD_lst {T : Type} (i : List T) (x d : T) : (i ++ [x]).getD i.length d = x := by simp [List.getD]
theorem behindWeight_is (x y : Int) (l : List (Int × Int × Int)) (h : l.length ≤ 1000000) : chart_behind_Weight x y l = some (behindI (l.getLast?.map (fun e => e.2.1)) x, l) := by
  rcases last_cases l with rfl | ⟨i, e, rfl⟩
  · rfl
  · have hl : (i ++ [e]).length = i.length + 1 := by simp
    have hw : IntKind.i64.wrap ((((i ++ [e]).length : Nat) : Int) - 1) = (i.length : Int) := by rw [hl] at h ⊢; rw [wrap_i64] <;> omega
    have h0 : decide ((((i ++ [e]).length : Nat) : Int) = 0) = false := decide_eq_false (by rw [hl]; omega)
    have h1 : decide ((0 : Int) ≤ (i.length : Int)) = true := decide_eq_true (by omega)
    have h2 : decide ((i.length : Int) < (((i ++ [e]).length : Nat) : Int)) = true := decide_eq_true (by rw [hl]; omega)
    have h3 : decide (i.length < (i ++ [e]).length) = true := decide_eq_true (by rw [hl]; omega)
    unfold chart_behind_Weight
    simp only [h0, Bool.false_eq_true, if_false, hw, h1, h2, Bool.and_self, if_true, Int.toNat_natCast, h3, getD_lst, chart_Classes_1_1, Option.bind_some, List.getLast?_concat, Option.map_some, behindI]
theorem spannedWeight_ne (n : Int) (w : List ByteArray) (l : List (Int × Int × Int)) (h : (w.length : Int) ≠ n) : chart_spanned_Weight n w l = some (false, 0, 0, w, l) := by
  unfold chart_spanned_Weight
  have : (((w.length : Nat) : Int) != n) = true := by simpa using h
  simp only [this, if_true]
theorem spannedWeight_eq (n : Int) (a b : ByteArray) (r : List ByteArray) (l : List (Int × Int × Int)) (h : ((a :: b :: r).length : Int) = n) (ha : a.size ≤ 1000000) (hb : b.size ≤ 1000000) (hl : l.length ≤ 1000000) :
    chart_spanned_Weight n (a :: b :: r) l = some (spanOK a b && behindI (l.getLast?.map (fun e => e.2.1)) (ptN a), (ptN a : Int), (ptN b : Int), a :: b :: r, l) := by
  unfold chart_spanned_Weight
  have h0 : ((((a :: b :: r).length : Nat) : Int) != n) = false := by simpa using h
  have h1 : decide ((0 : Int) < (((a :: b :: r).length : Nat) : Int)) = true := decide_eq_true (by simp only [List.length_cons]; omega)
  have h2 : decide (0 < (a :: b :: r).length) = true := decide_eq_true (by simp only [List.length_cons]; omega)
  have h3 : decide ((1 : Int) < (((a :: b :: r).length : Nat) : Int)) = true := decide_eq_true (by simp only [List.length_cons]; omega)
  have h4 : decide (1 < (a :: b :: r).length) = true := decide_eq_true (by simp only [List.length_cons]; omega)
  have e0 : (a :: b :: r).getD 0 ByteArray.empty = a := rfl
  have e1 : (a :: b :: r).getD 1 ByteArray.empty = b := rfl
  simp only [h0, Bool.false_eq_true, if_false, h1, h2, h3, h4, if_true, e0, e1, span_is a b (by omega) (by omega), Option.bind_some]
  cases spanOK a b
  · simp
  · simp [behindWeight_is _ _ l hl]

def decN (l : List UInt8) : Nat := l.foldl (fun n b => n * 10 + (b.toNat - 48)) 0
def digits10 : ByteArray := ⟨#[48, 49, 50, 51, 52, 53, 54, 55, 56, 57]⟩
theorem low10 : Low digits10 := by unfold Low digits10; decide
theorem dig_of {s : ByteArray} (h : allIn digits10 s = true) : ∀ b ∈ s.data.toList, 48 ≤ b.toNat ∧ b.toNat ≤ 57 := by
  intro b hb
  unfold allIn at h
  rw [List.all_eq_true] at h
  have := h b hb
  unfold digits10 at this
  simp at this
  rcases this with h | h | h | h | h | h | h | h | h | h <;> subst h <;> decide
theorem decN_lt (l : List UInt8) (h : ∀ b ∈ l, 48 ≤ b.toNat ∧ b.toNat ≤ 57) : decN l < 10 ^ l.length := by
  have key : ∀ (l : List UInt8) (a k : Nat), (∀ b ∈ l, 48 ≤ b.toNat ∧ b.toNat ≤ 57) → a < 10 ^ k → l.foldl (fun n b => n * 10 + (b.toNat - 48)) a < 10 ^ (k + l.length) := by
    intro l
    induction l with
    | nil => intro a k _ ha; exact ha
    | cons b r ih =>
      intro a k h ha
      rw [List.foldl_cons, List.length_cons, Nat.add_comm r.length 1, ← Nat.add_assoc]
      refine ih _ (k + 1) (fun b hb => h b (by simp [hb])) ?_
      have := h b (by simp)
      rw [Nat.pow_succ]
      omega
  have := key l 0 0 h (by simp)
  rwa [Nat.zero_add] at this
theorem atoi_loop (s : ByteArray) (h2 : s.size ≤ 3) (h3 : ∀ b ∈ s.data.toList, 48 ≤ b.toNat ∧ b.toNat ≤ 57) :
    runLoop internal_strconv_Atoi_b10 (s, 0, ((s.data.toList.map (fun x : UInt8 => ((x.toNat : Nat) : Int))).length : Int), 0, s.data.toList.map (fun x : UInt8 => ((x.toNat : Nat) : Int))) = some (.inr (s, (decN s.data.toList : Int))) := by
  have hsz : s.data.toList.length = s.size := Array.length_toList
  generalize hL : s.data.toList = L at *
  have hlen : (L.map (fun x : UInt8 => ((x.toNat : Nat) : Int))).length = L.length := List.length_map _
  refine runLoop_to (fun i : Nat => i ≤ L.length) (fun i : Nat => (s, ((decN (L.take i) : Nat) : Int), ((L.map (fun x : UInt8 => ((x.toNat : Nat) : Int))).length : Int), (i : Int), L.map (fun x : UInt8 => ((x.toNat : Nat) : Int)))) (fun i => L.length - i) _ ?_ 0 (Nat.zero_le _)
  intro i hi
  by_cases hlt : i < L.length
  · left
    refine ⟨i + 1, ?_, hlt, by omega⟩
    obtain ⟨b, hb⟩ : ∃ b, L[i]? = some b := ⟨_, List.getElem?_eq_getElem hlt⟩
    have hbd := h3 b (List.mem_of_getElem? hb)
    have hn : decN (L.take i) ≤ 100 := by
      have := decN_lt (L.take i) (fun b hb => h3 b (List.mem_of_mem_take hb))
      have hl : (L.take i).length ≤ 2 := by rw [List.length_take]; omega
      have : 10 ^ (L.take i).length ≤ 10 ^ 2 := Nat.pow_le_pow_right (by omega) hl
      omega
    have hst : decN (L.take (i + 1)) = decN (L.take i) * 10 + (b.toNat - 48) := by
      rw [List.take_add_one, hb]
      simp [decN]
    rw [hst]
    generalize decN (L.take i) = n at *
    have w3 : IntKind.i64.wrap ((n : Int) * 10) = n * 10 := by rw [wrap_i64] <;> omega
    have w4 : IntKind.i64.wrap ((i : Int) + 1) = ((i + 1 : Nat) : Int) := by rw [wrap_i64] <;> omega
    have d0 : decide ((i : Int) < (L.length : Int)) = true := decide_eq_true (by omega)
    have d1 : decide ((0 : Int) ≤ (i : Int)) = true := decide_eq_true (by omega)
    have g := getD_map_toNat L i b hb
    have w5 : IntKind.u8.wrap ((b.toNat : Int) - 48) = ((b.toNat - 48 : Nat) : Int) := by rw [IntKind.wrap_u8]; omega
    have w6 : IntKind.i64.wrap ((b.toNat - 48 : Nat) : Int) = ((b.toNat - 48 : Nat) : Int) := by rw [wrap_i64] <;> omega
    have w7 : IntKind.i64.wrap ((n : Int) * 10 + ((b.toNat - 48 : Nat) : Int)) = ((n * 10 + (b.toNat - 48) : Nat) : Int) := by rw [wrap_i64] <;> omega
    have c1 : decide (((b.toNat - 48 : Nat) : Int) > 9) = false := decide_eq_false (by omega)
    simp only [internal_strconv_Atoi_b10, hlen, d0, d1, Int.toNat_natCast, decide_eq_true hlt, Bool.and_self, if_true, g, c1, Bool.false_eq_true, if_false, w3, w4, w5, w6, w7]
  · right
    have : i = L.length := by omega
    subst this
    have d0 : decide ((L.length : Int) < (L.length : Int)) = false := decide_eq_false (by omega)
    simp only [internal_strconv_Atoi_b10, hlen, d0, Bool.false_eq_true, if_false]
    rw [List.take_of_length_le (Nat.le_refl _)]
theorem atoi_is (s : ByteArray) (h1 : 1 ≤ s.size) (h2 : s.size ≤ 3) (h3 : ∀ b ∈ s.data.toList, 48 ≤ b.toNat ∧ b.toNat ≤ 57) : strconv_Atoi s = some (decN s.data.toList : Int) := by
  have hsz : s.data.toList.length = s.size := Array.length_toList
  have hm : s.data.toList.getD 0 0 ∈ s.data.toList := by
    cases hq : s.data.toList with
    | nil => rw [hq] at hsz; simp at hsz; omega
    | cons x r => simp [List.getD]
  have hb := h3 _ hm
  have c0 : decide ((0 : Int) < (s.size : Int)) = true := decide_eq_true (by omega)
  have c1 : decide ((s.size : Int) < 19) = true := decide_eq_true (by omega)
  have c2 : decide (((s.data.toList.getD 0 (0 : UInt8)).toNat : Int) = 45) = false := decide_eq_false (by omega)
  have c3 : decide (((s.data.toList.getD 0 (0 : UInt8)).toNat : Int) = 43) = false := decide_eq_false (by omega)
  have c4 : decide (s.size ≤ 9223372036854775807) = true := decide_eq_true (by omega)
  unfold strconv_Atoi internal_strconv_Atoi
  simp only [c0, c1, c2, c3, c4, if_true, Bool.false_eq_true, if_false, atoi_loop s h2 h3, Option.bind_some]

def numOK (c : ByteArray) : Bool := decide (1 ≤ c.size) && decide (c.size ≤ 3) && allIn digits10 c && !(c.data.toList.getD 0 0 == 48) && decide (decN c.data.toList ≤ 254)
def oneW (w : List ByteArray) (l : List (Int × Int × Int)) : Option (Int × Int × Int) := match w with
  | [a, b, c] => if spanOK a b && behindI (l.getLast?.map (fun e => e.2.1)) (ptN a) && numOK c then some ((ptN a : Int), (ptN b : Int), (decN c.data.toList : Int)) else none
  | _ => none
theorem three {w : List ByteArray} (h : w.length = 3) : ∃ a b c, w = [a, b, c] := by
  match w, h with
  | [a, b, c], _ => exact ⟨a, b, c, rfl⟩
theorem oneW_ne {w : List ByteArray} (l) (h : w.length ≠ 3) : oneW w l = none := by
  unfold oneW
  split
  · simp at h
  · rfl
theorem digits10_eq : ByteArray.extract (ByteArray.mk (List.toArray [(48 : UInt8), (49 : UInt8), (50 : UInt8), (51 : UInt8), (52 : UInt8), (53 : UInt8), (54 : UInt8), (55 : UInt8), (56 : UInt8), (57 : UInt8), (65 : UInt8), (66 : UInt8), (67 : UInt8), (68 : UInt8), (69 : UInt8), (70 : UInt8)])) 0 10 = digits10 := by
  rw [ByteArray.ext_iff]; decide
theorem le_cast1 (a b : Nat) : decide ((a : Int) ≤ (b : Int)) = decide (a ≤ b) := by rw [Bool.eq_iff_iff, decide_eq_true_eq, decide_eq_true_eq]; omega

theorem Classes1_is (w : List ByteArray) (l : List (Int × Int × Int)) (hw : ∀ x ∈ w, x.size ≤ 1000000) (hl : l.length ≤ 1000000) :
    ∃ a b n, chart_Classes_1 w l = some ((oneW w l).isSome, a, b, n, w, l) ∧ ∀ x, oneW w l = some x → x = (a, b, n) := by
  by_cases h3 : w.length = 3
  · obtain ⟨a, b, c, rfl⟩ := three h3
    have ha := hw a (by simp)
    have hb := hw b (by simp)
    have hc := hw c (by simp)
    unfold chart_Classes_1
    rw [spannedWeight_eq 3 a b [c] l (by rfl) ha hb hl, digits10_eq]
    simp only [Option.bind_some]
    cases hS : (spanOK a b && behindI (l.getLast?.map (fun e => e.2.1)) (ptN a))
    · have ho : oneW [a, b, c] l = none := by simp only [oneW, hS, Bool.false_and, Bool.false_eq_true, if_false]
      rw [ho]
      exact ⟨0, 0, 0, rfl, fun x h => by cases h⟩
    · have g2 : [a, b, c].getD 2 ByteArray.empty = c := rfl
      have e1 : decide ((2 : Int) < (([a, b, c].length : Nat) : Int)) = true := rfl
      have e2 : decide (2 < [a, b, c].length) = true := rfl
      simp only [Bool.not_true, Bool.false_eq_true, if_false, e1, e2, if_true, g2, made_is c digits10 1 3 low10 (by omega), Option.bind_some]
      have q1 : decide ((1 : Int) ≤ (c.size : Int)) = decide (1 ≤ c.size) := le_cast1 1 _
      have q2 : decide ((c.size : Int) ≤ 3) = decide (c.size ≤ 3) := le_cast1 _ 3
      rw [q1, q2]
      cases hM : (decide (1 ≤ c.size) && decide (c.size ≤ 3) && allIn digits10 c)
      · have ho : oneW [a, b, c] l = none := by simp only [oneW, hS, numOK, hM, Bool.false_and, Bool.and_false, Bool.false_eq_true, if_false]
        rw [ho]
        exact ⟨0, 0, 0, rfl, fun x h => by cases h⟩
      · have hM' := hM
        simp only [Bool.and_eq_true, decide_eq_true_eq] at hM'
        obtain ⟨⟨m1, m2⟩, m3⟩ := hM'
        have hd := dig_of m3
        have hat := atoi_is c m1 m2 hd
        have e3 : decide ((0 : Int) < (c.size : Int)) = true := decide_eq_true (by omega)
        have hz : decide (((c.data.toList.getD 0 (0 : UInt8)).toNat : Int) = 48) = (c.data.toList.getD 0 0 == 48) := by
          rw [Bool.eq_iff_iff, decide_eq_true_eq, beq_iff_eq]
          constructor
          · intro h; exact UInt8.toNat_inj.1 (by have : (48 : UInt8).toNat = 48 := rfl; omega)
          · intro h; rw [h]; rfl
        have hlt := decN_lt _ hd
        have hsz : c.data.toList.length = c.size := Array.length_toList
        have : 10 ^ c.data.toList.length ≤ 10 ^ 3 := Nat.pow_le_pow_right (by omega) (by omega)
        have hu : IntKind.u32.wrap (decN c.data.toList : Int) = decN c.data.toList := by rw [IntKind.wrap_u32]; omega
        have hle : decide ((decN c.data.toList : Int) ≤ 254) = decide (decN c.data.toList ≤ 254) := le_cast1 _ 254
        simp only [Bool.not_true, Bool.false_eq_true, if_false, e3, if_true, hz, hat, Option.bind_some, hu, hle]
        cases hZ : (c.data.toList.getD 0 0 == 48)
        · cases hN : decide (decN c.data.toList ≤ 254)
          · have ho : oneW [a, b, c] l = none := by simp only [oneW, hS, numOK, hM, hZ, hN, Bool.not_false, Bool.and_false, Bool.false_eq_true, if_false]
            rw [ho]
            exact ⟨_, _, _, rfl, fun x h => by cases h⟩
          · have ho : oneW [a, b, c] l = some ((ptN a : Int), (ptN b : Int), (decN c.data.toList : Int)) := by simp only [oneW, hS, numOK, hM, hZ, hN, Bool.not_false, Bool.and_self, if_true]
            rw [ho]
            exact ⟨_, _, _, rfl, fun x h => by cases h; rfl⟩
        · have ho : oneW [a, b, c] l = none := by simp only [oneW, hS, numOK, hM, hZ, Bool.not_true, Bool.and_false, Bool.false_and, Bool.false_eq_true, if_false]
          rw [ho]
          exact ⟨0, 0, 0, rfl, fun x h => by cases h⟩
  · unfold chart_Classes_1
    rw [spannedWeight_ne 3 w l (by omega), oneW_ne l h3]
    exact ⟨0, 0, 0, rfl, fun x h => by cases h⟩

theorem readWeight_is (s : ByteArray) (hs : s.size ≤ 1000000) : chart_read_Weight s = some (resR (readR oneW (linesOf s) [] 0)) := by
  unfold chart_read_Weight linesOf
  rw [beq_nil]
  by_cases h0 : s.size = 0
  · simp [h0, readR, resR]
  · rw [if_neg (by simpa using h0), if_neg h0, split_is 10 s (by omega)]
    simp only [Option.bind_some]
    have hL : (spB 10 s).length ≤ 1000001 := by have := spB_len 10 s; omega
    have hW : ∀ w ∈ spB 10 s, w.size ≤ 1000000 := fun w h => by have := spB_word 10 s w h; omega
    have hn : (spB 10 s).length ≤ s.size + 1 := spB_len 10 s
    generalize spB 10 s = L at *
    have key := read_go chart_read_Weight_b5 oneW L (fun acc => by simp [chart_read_Weight_b5]) ?_ L.length 0 [] (by omega) rfl
    · rw [show ((0 : Nat) : Int) = 0 from rfl, List.drop_zero] at key
      rw [key]
      simp only [Option.bind_some]
      cases readR oneW (L.map (spB 32)) [] 0 <;> rfl
    · intro i acc w hw ha hi
      have hm : w ∈ L := List.mem_of_getElem? hw
      have hws := hW w hm
      have d0 : decide ((i : Int) < (L.length : Int)) = true := decide_eq_true (by omega)
      have d1 : decide ((0 : Int) ≤ (i : Int)) = true := decide_eq_true (by omega)
      have d2 : decide (i < L.length) = true := decide_eq_true hi
      have hg : L.getD i ByteArray.empty = w := by rw [List.getD_eq_getElem?_getD, hw]; rfl
      have hwr : IntKind.i64.wrap ((i : Int) + 1) = ((i + 1 : Nat) : Int) := by rw [wrap_i64] <;> omega
      have hsp := split_is 32 w (by omega)
      have hww : ∀ x ∈ spB 32 w, x.size ≤ 1000000 := fun x h => by have := spB_word 32 w x h; omega
      obtain ⟨a, b, n, hc, hx⟩ := Classes1_is (spB 32 w) acc hww (by omega)
      simp only [chart_read_Weight_b5, d0, d1, d2, if_true, Bool.and_self, Int.toNat_natCast, hg, hsp, Option.bind_some, hc, hwr]
      cases ho : oneW (spB 32 w) acc with
      | none => simp
      | some x =>
        have := hx x ho
        subst this
        simp
        omega
theorem Classes_is (s : ByteArray) (hs : s.size ≤ 1000000) : chart_Classes s = some (resR (readR oneW (linesOf s) [] 0)) := by
  unfold chart_Classes
  rw [readWeight_is s hs]; rfl

end Go.Pc

namespace Go.Pc
open Go Go.Sx Go.Tx
def signsB : ByteArray := ⟨#[61, 33, 126]⟩
theorem lowSigns : Low signsB := by unfold Low signsB; decide
theorem signsB_eq : (ByteArray.mk (List.toArray [(61 : UInt8), (33 : UInt8), (126 : UInt8)])) = signsB := rfl
def isB (s : ByteArray) (t : List UInt8) : Bool := List.beq (ByteArray.toList s) (ByteArray.toList (ByteArray.mk (List.toArray t)))
theorem isB_eq (s : ByteArray) (t : List UInt8) : List.beq (ByteArray.toList s) (ByteArray.toList (ByteArray.mk (List.toArray t))) = isB s t := rfl

def ptsOK : List ByteArray → Bool := fun l => l.all ptOK
theorem points_go (L : List ByteArray) (hL : L.length ≤ 1000000) (hw : ∀ x ∈ L, x.size ≤ 1000000) : ∀ (n i : Nat) (acc : List Int), n + i = L.length → acc.length = i →
    runLoop chart_points_b3 ((L.length : Int), (i : Int), L, acc) = some (if ptsOK (L.drop i) then .inr (L, acc ++ (L.drop i).map (fun x => (ptN x : Int))) else .inl (false, L)) := by
  intro n
  induction n with
  | zero =>
    intro i acc h1 h2
    have : i = L.length := by omega
    subst this
    have d0 : decide ((L.length : Int) < (L.length : Int)) = false := decide_eq_false (by omega)
    rw [runLoop_done (x := .inr (L, acc)) (by simp only [chart_points_b3, d0, Bool.false_eq_true, if_false]), List.drop_length]
    simp [ptsOK]
  | succ n ih =>
    intro i acc h1 h2
    have hi : i < L.length := by omega
    have d0 : decide ((i : Int) < (L.length : Int)) = true := decide_eq_true (by omega)
    have d1 : decide ((0 : Int) ≤ (i : Int)) = true := decide_eq_true (by omega)
    have d2 : decide (i < L.length) = true := decide_eq_true hi
    have hg : L.getD i ByteArray.empty = L[i] := by rw [List.getD_eq_getElem?_getD, List.getElem?_eq_getElem hi]; rfl
    have hwr : IntKind.i64.wrap ((i : Int) + 1) = ((i + 1 : Nat) : Int) := by rw [wrap_i64] <;> omega
    have hm : L[i] ∈ L := List.getElem_mem hi
    have hp := point_is L[i] (by have := hw _ hm; omega)
    rw [List.drop_eq_getElem_cons hi]
    cases ho : ptOK L[i]
    · rw [runLoop_done (x := .inl (false, L)) (by simp only [chart_points_b3, d0, d1, d2, if_true, Bool.and_self, Int.toNat_natCast, hg, hp, Option.bind_some, ho, Bool.not_false])]
      have e : ptsOK (L[i] :: L.drop (i + 1)) = false := by
        show (ptOK L[i] && _) = false
        rw [ho]; rfl
      rw [e]; rfl
    · have hlen : decide ((acc.length + [(ptN L[i] : Int)].length) * 4 ≤ 140737488355328) = true := decide_eq_true (by simp; omega)
      rw [runLoop_step (v' := ((L.length : Int), ((i + 1 : Nat) : Int), L, acc ++ [(ptN L[i] : Int)])) (by simp only [chart_points_b3, d0, d1, d2, if_true, Bool.and_self, Int.toNat_natCast, hg, hp, Option.bind_some, ho, Bool.not_true, Bool.false_eq_true, if_false, hlen, hwr])]
      rw [ih (i + 1) (acc ++ [(ptN L[i] : Int)]) (by omega) (by simp [h2])]
      have e : ptsOK (L[i] :: L.drop (i + 1)) = ptsOK (L.drop (i + 1)) := by
        show (ptOK L[i] && ptsOK _) = _
        rw [ho, Bool.true_and]
      rw [e, List.map_cons, List.append_assoc]; rfl
theorem points_is (L : List ByteArray) (hL : L.length ≤ 1000000) (hw : ∀ x ∈ L, x.size ≤ 1000000) :
    ∃ r, chart_points L = some (ptsOK L && decide (0 < L.length) && decide (L.length ≤ 3), L, r) ∧ (ptsOK L = true → r = L.map (fun x => (ptN x : Int))) := by
  have h := points_go L hL hw L.length 0 [] (by omega) rfl
  rw [show ((0 : Nat) : Int) = 0 from rfl, List.drop_zero, List.nil_append] at h
  unfold chart_points
  rw [h]
  simp only [Option.bind_some]
  cases hp : ptsOK L
  · exact ⟨[], rfl, fun h => by cases h⟩
  · refine ⟨L.map (fun x => (ptN x : Int)), ?_, fun _ => rfl⟩
    simp only [if_true]
    by_cases h0 : 0 < L.length
    · have d0 : decide ((L.length : Int) > 0) = true := decide_eq_true (by omega)
      have q2 : decide ((L.length : Int) ≤ 3) = decide (L.length ≤ 3) := le_cast1 _ 3
      simp [d0, q2, h0]
    · have d0 : decide ((L.length : Int) > 0) = false := decide_eq_false (by omega)
      simp [d0, h0]

def aheadI (e : Option Int) (f : Int) : Bool := match e with
  | none => true
  | some x => !decide (x ≥ f)
def oneDecomp (w : List ByteArray) (l : List (Int × List Int × Bool × Bool)) : Option (Int × List Int × Bool × Bool) := match w with
  | a :: b :: c :: r => if (decide (1 ≤ b.size) && decide (b.size ≤ 1) && allIn signsB b) && ptOK a && (ptsOK (c :: r) && decide ((c :: r).length ≤ 3)) && aheadI (l.getLast?.map (fun e => e.1)) (ptN a) then
      some ((ptN a : Int), (c :: r).map (fun x => (ptN x : Int)), isB b [126], isB b [33]) else none
  | _ => none
theorem oneDecomp_ne {w : List ByteArray} (l) (h : w.length < 3) : oneDecomp w l = none := by
  unfold oneDecomp
  split
  · simp at h; omega
  · rfl
theorem more3 {w : List ByteArray} (h : ¬ w.length < 3) : ∃ a b c r, w = a :: b :: c :: r := by
  match w, h with
  | [], h => simp at h
  | [_], h => simp at h
  | [_, _], h => simp at h
  | a :: b :: c :: r, _ => exact ⟨a, b, c, r, rfl⟩
theorem Decomps1_is (w : List ByteArray) (l : List (Int × List Int × Bool × Bool)) (hw : ∀ x ∈ w, x.size ≤ 1000000) (hwl : w.length ≤ 1000001) (hl : l.length ≤ 1000000) :
    ∃ n x y r, chart_Decomps_1 w l = some ((oneDecomp w l).isSome, n, x, y, w, l, r) ∧ ∀ z, oneDecomp w l = some z → z = (n, r, x, y) := by
  by_cases h3 : w.length < 3
  · have e0 : decide (((w.length : Nat) : Int) < 3) = true := decide_eq_true (by omega)
    unfold chart_Decomps_1
    rw [oneDecomp_ne l h3]
    simp only [e0, if_true]
    exact ⟨_, _, _, _, rfl, fun x h => by cases h⟩
  · obtain ⟨a, b, c, r, rfl⟩ := more3 h3
    have ha := hw a (by simp)
    have hb := hw b (by simp)
    obtain ⟨q, hq, hq'⟩ := points_is (c :: r) (by simp at hwl ⊢; omega) (fun x hx => hw x (by simp at hx ⊢; exact .inr (.inr hx)))
    unfold chart_Decomps_1
    rw [signsB_eq]
    generalize hN : (a :: b :: c :: r).length = N at *
    have hN3 : 3 ≤ N := by omega
    have g0 : (a :: b :: c :: r).getD 0 ByteArray.empty = a := rfl
    have g1 : (a :: b :: c :: r).getD 1 ByteArray.empty = b := rfl
    have gd : List.drop 2 (List.take ((N : Nat) : Int).toNat (a :: b :: c :: r)) = c :: r := by rw [Int.toNat_natCast, ← hN, List.take_length]; rfl
    have e0 : decide (((N : Nat) : Int) < 3) = false := decide_eq_false (by omega)
    have e1 : decide ((0 : Int) < ((N : Nat) : Int)) = true := decide_eq_true (by omega)
    have e2 : decide (0 < N) = true := decide_eq_true (by omega)
    have e3 : decide ((1 : Int) < ((N : Nat) : Int)) = true := decide_eq_true (by omega)
    have e4 : decide (1 < N) = true := decide_eq_true (by omega)
    have e5 : decide ((2 : Int) ≤ ((N : Nat) : Int)) = true := decide_eq_true (by omega)
    have e6 : decide (((N : Nat) : Int) ≤ ((N : Nat) : Int)) = true := decide_eq_true (by omega)
    simp only [Bool.false_eq_true, if_false, e0, e1, e2, e3, e4, e5, e6, if_true, Bool.and_self, g0, g1, gd, hq, isB_eq, made_is b signsB 1 1 lowSigns (by omega), point_is a (by omega), Option.bind_some]
    have q1 : decide ((1 : Int) ≤ (b.size : Int)) = decide (1 ≤ b.size) := le_cast1 1 _
    have q2 : decide ((b.size : Int) ≤ 1) = decide (b.size ≤ 1) := le_cast1 _ 1
    have q3 : decide (0 < (c :: r).length) = true := decide_eq_true (by simp)
    rw [q1, q2, q3, Bool.and_true]
    cases hM : (decide (1 ≤ b.size) && decide (b.size ≤ 1) && allIn signsB b)
    · have ho : oneDecomp (a :: b :: c :: r) l = none := by simp only [oneDecomp, hM, Bool.false_and, Bool.false_eq_true, if_false]
      rw [ho]
      exact ⟨_, _, _, _, rfl, fun x h => by cases h⟩
    · cases hA : ptOK a
      · have ho : oneDecomp (a :: b :: c :: r) l = none := by simp only [oneDecomp, hA, Bool.false_and, Bool.and_false, Bool.false_eq_true, if_false]
        rw [ho]
        exact ⟨_, _, _, _, rfl, fun x h => by cases h⟩
      · cases hP : (ptsOK (c :: r) && decide ((c :: r).length ≤ 3))
        · have ho : oneDecomp (a :: b :: c :: r) l = none := by simp only [oneDecomp, hP, Bool.false_and, Bool.and_false, Bool.false_eq_true, if_false]
          rw [ho]
          exact ⟨_, _, _, _, rfl, fun x h => by cases h⟩
        · have hq2 := hq' (by simp only [Bool.and_eq_true] at hP; exact hP.1)
          rcases last_cases l with rfl | ⟨i, e, rfl⟩
          · have ho : oneDecomp (a :: b :: c :: r) [] = some ((ptN a : Int), (c :: r).map (fun x => (ptN x : Int)), isB b [126], isB b [33]) := by simp only [oneDecomp, hM, hA, hP, Bool.and_self, List.getLast?_nil, Option.map_none, aheadI, if_true]
            rw [ho]
            exact ⟨_, _, _, _, rfl, fun x h => by cases h; rw [hq2]⟩
          · have hl' : (i ++ [e]).length = i.length + 1 := by simp
            have hwp : IntKind.i64.wrap ((((i ++ [e]).length : Nat) : Int) - 1) = (i.length : Int) := by rw [hl'] at hl ⊢; rw [wrap_i64] <;> omega
            have h0 : decide ((((i ++ [e]).length : Nat) : Int) > 0) = true := decide_eq_true (by rw [hl']; omega)
            have h1 : decide ((0 : Int) ≤ (i.length : Int)) = true := decide_eq_true (by omega)
            have h2 : decide ((i.length : Int) < (((i ++ [e]).length : Nat) : Int)) = true := decide_eq_true (by rw [hl']; omega)
            have h3 : decide (i.length < (i ++ [e]).length) = true := decide_eq_true (by rw [hl']; omega)
            simp only [Bool.not_true, Bool.false_eq_true, if_false, h0, if_true, hwp, h1, h2, Bool.and_self, Int.toNat_natCast, h3, getD_lst]
            cases hE : decide (e.1 ≥ (ptN a : Int))
            · have ho : oneDecomp (a :: b :: c :: r) (i ++ [e]) = some ((ptN a : Int), (c :: r).map (fun x => (ptN x : Int)), isB b [126], isB b [33]) := by simp only [oneDecomp, hM, hA, hP, Bool.and_self, List.getLast?_concat, Option.map_some, aheadI, hE, Bool.not_false, if_true]
              rw [ho]
              exact ⟨_, _, _, _, rfl, fun x h => by cases h; rw [hq2]⟩
            · have ho : oneDecomp (a :: b :: c :: r) (i ++ [e]) = none := by simp only [oneDecomp, List.getLast?_concat, Option.map_some, aheadI, hE, Bool.not_true, Bool.and_false, Bool.false_eq_true, if_false]
              rw [ho]
              exact ⟨_, _, _, _, rfl, fun x h => by cases h⟩

theorem six {w : List ByteArray} (h : w.length = 6) : ∃ a b c d e f, w = [a, b, c, d, e, f] := by
  match w, h with
  | [a, b, c, d, e, f], _ => exact ⟨a, b, c, d, e, f, rfl⟩
theorem readDecomp_is (s : ByteArray) (hs : s.size ≤ 1000000) : chart_read_Decomp s = some (resR (readR oneDecomp (linesOf s) [] 0)) := by
  unfold chart_read_Decomp linesOf
  rw [beq_nil]
  by_cases h0 : s.size = 0
  · simp [h0, readR, resR]
  · rw [if_neg (by simpa using h0), if_neg h0, split_is 10 s (by omega)]
    simp only [Option.bind_some]
    have hL : (spB 10 s).length ≤ 1000001 := by have := spB_len 10 s; omega
    have hW : ∀ w ∈ spB 10 s, w.size ≤ 1000000 := fun w h => by have := spB_word 10 s w h; omega
    have hn : (spB 10 s).length ≤ s.size + 1 := spB_len 10 s
    generalize spB 10 s = L at *
    have key := read_go chart_read_Decomp_b5 oneDecomp L (fun acc => by simp [chart_read_Decomp_b5]) ?_ L.length 0 [] (by omega) rfl
    · rw [show ((0 : Nat) : Int) = 0 from rfl, List.drop_zero] at key
      rw [key]
      simp only [Option.bind_some]
      cases readR oneDecomp (L.map (spB 32)) [] 0 <;> rfl
    · intro i acc w hw ha hi
      have hm : w ∈ L := List.mem_of_getElem? hw
      have hws := hW w hm
      have d0 : decide ((i : Int) < (L.length : Int)) = true := decide_eq_true (by omega)
      have d1 : decide ((0 : Int) ≤ (i : Int)) = true := decide_eq_true (by omega)
      have d2 : decide (i < L.length) = true := decide_eq_true hi
      have hg : L.getD i ByteArray.empty = w := by rw [List.getD_eq_getElem?_getD, hw]; rfl
      have hwr : IntKind.i64.wrap ((i : Int) + 1) = ((i + 1 : Nat) : Int) := by rw [wrap_i64] <;> omega
      have hsp := split_is 32 w (by omega)
      have hww : ∀ x ∈ spB 32 w, x.size ≤ 1000000 := fun x h => by have := spB_word 32 w x h; omega
      obtain ⟨n, x, y, r, hc, hx⟩ := Decomps1_is (spB 32 w) acc hww (by have := spB_len 32 w; omega) (by omega)
      simp only [chart_read_Decomp_b5, d0, d1, d2, if_true, Bool.and_self, Int.toNat_natCast, hg, hsp, Option.bind_some, hc, hwr]
      cases ho : oneDecomp (spB 32 w) acc with
      | none => simp
      | some x =>
        have := hx x ho
        subst this
        simp
        omega
theorem Decomps_is (s : ByteArray) (hs : s.size ≤ 1000000) : chart_Decomps s = some (resR (readR oneDecomp (linesOf s) [] 0)) := by
  unfold chart_Decomps
  rw [readDecomp_is s hs]; rfl
end Go.Pc

namespace Go.Pc
open Go Go.Sx Go.Tx
theorem wrapi (i n : Nat) (h : i < n) (hn : n ≤ 1000000000) : IntKind.i64.wrap ((i : Int) + 1) = ((i + 1 : Nat) : Int) := by rw [wrap_i64] <;> omega
theorem wrapu64 (q : Int) (h0 : 0 ≤ q) (h1 : q ≤ 4294967295) : IntKind.u64.wrap q = q := by
  unfold IntKind.wrap
  have e3 : (2 ^ IntKind.u64.bits : Int) = 18446744073709551616 := by decide
  have e4 : IntKind.u64.signed = false := rfl
  simp only [e3, e4, Bool.false_and, Bool.false_eq_true, if_false]
  omega
theorem wrapu32 (q : Int) (h0 : 0 ≤ q) (h1 : q ≤ 4294967295) : IntKind.u32.wrap q = q := by
  unfold IntKind.wrap
  have e3 : (2 ^ IntKind.u32.bits : Int) = 4294967296 := by decide
  have e4 : IntKind.u32.signed = false := rfl
  simp only [e3, e4, Bool.false_and, Bool.false_eq_true, if_false]
  omega
theorem app_eq (a b : List UInt8) : ByteArray.append ⟨a.toArray⟩ ⟨b.toArray⟩ = ⟨(a ++ b).toArray⟩ := by
  apply ByteArray.ext
  show ((⟨a.toArray⟩ : ByteArray) ++ ⟨b.toArray⟩).data = _
  rw [ByteArray.data_append]
  simp
theorem mk_sz (a : List UInt8) : (ByteArray.mk a.toArray).size = a.length := by
  show a.toArray.size = _
  simp
theorem mk_list (a : List UInt8) : (ByteArray.mk a.toArray).data.toList = a := by simp
theorem upper_is (u : Int) (h0 : 0 ≤ u) (h1 : u ≤ 1114111) : strings_ToUpper (textOf ((digs u).map lowD)) = some ⟨((digs u).map upD).toArray⟩ := by
  have hl := digs_len u
  have hd : (textOf ((digs u).map lowD)).data.toList = (digs u).map fun q => UInt8.ofNat (lowD q).toNat := by
    unfold textOf
    simp
  have hs : (textOf ((digs u).map lowD)).size = (digs u).length := by
    show (textOf ((digs u).map lowD)).data.size = _
    rw [← Array.length_toList, hd, List.length_map]
  unfold strings_ToUpper
  have ha : asciiB (textOf ((digs u).map lowD)) = true := by
    unfold asciiB
    rw [hd, List.all_eq_true]
    intro b hb
    obtain ⟨q, hq, rfl⟩ := List.mem_map.1 hb
    have hq' := digs_lt u h0 h1 q hq
    exact decide_eq_true (lowU q hq'.1 hq'.2).2
  rw [ha, hs, decide_eq_true (by omega), Bool.and_self, if_pos rfl, hd]
  unfold Lib.toUpperA
  rw [List.map_map]
  have : (digs u).map (Lib.upperB ∘ fun q => UInt8.ofNat (lowD q).toNat) = (digs u).map upD := List.map_congr_left fun q hq => by
    have hq' := digs_lt u h0 h1 q hq
    exact (lowU q hq'.1 hq'.2).1
  rw [this]
theorem rep_is (k : Nat) (h : k ≤ 100) : strings_Repeat (ByteArray.mk (List.toArray [(48 : UInt8)])) (k : Int) = some ⟨(List.replicate k 48).toArray⟩ := by
  unfold strings_Repeat
  have hr : ∀ k, Lib.repeatL [48] k = List.replicate k 48 := fun k => by
    induction k with
    | zero => rfl
    | succ k ih => rw [List.replicate_succ, ← ih]; rfl
  rw [Int.toNat_natCast, mk_sz, mk_list, hr, decide_eq_true (by omega), decide_eq_true (by omega), decide_eq_true (by simp; omega)]
  rfl
theorem pad_is (n : Nat) (h : n ≤ 6) : (if ((0 : Int) > (Go.IntKind.wrap .i64 ((4 : Int) - ((n : Nat) : Int)))) then (0 : Int) else (Go.IntKind.wrap .i64 ((4 : Int) - ((n : Nat) : Int)))) = ((4 - n : Nat) : Int) := by
  have hw : Go.IntKind.wrap .i64 ((4 : Int) - ((n : Nat) : Int)) = 4 - (n : Int) := by rw [wrap_i64] <;> omega
  rw [hw]
  split <;> omega
def okU (n : Int) : Prop := 0 ≤ n ∧ n ≤ 4294967295
theorem cstep (l : List Int) (hl : l.length ≤ 1000) (hu : ∀ n ∈ l, okU n) (i : Nat) (hi : i < l.length) (acc : List ByteArray) (ha : acc.length = i) :
    chart_Points_i2_b3 ((l.length : Int), (i : Int), acc, l) = some (.inl ((l.length : Int), ((i + 1 : Nat) : Int), acc ++ [txt l[i]], l)) := by
  have hn := hu l[i] (List.getElem_mem hi)
  unfold okU at hn
  rw [chart_Points_i2_b3, Int.toNat_natCast, getD_in l i _ hi, wrapi i _ hi (by omega), it1 (by omega), it2 (by omega) (by omega), it1 (by omega)]
  by_cases hb : l[i] > 1114111
  · rw [it1 hb, it1 (by omega)]
    unfold txt txtL
    rw [if_pos hb]
  · have h1 : l[i] ≤ 1114111 := by omega
    have hd := digs_len l[i]
    have e : txt l[i] = ⟨(List.replicate (4 - (digs l[i]).length) 48 ++ (digs l[i]).map upD).toArray⟩ := by
      unfold txt txtL hexU
      rw [if_neg hb]
    rw [it0 hb, wrapu64 _ hn.1 hn.2, format_is _ hn.1 h1, Option.bind_some, upper_is _ hn.1 h1, Option.bind_some, mk_sz, List.length_map, pad_is _ hd.2, rep_is _ (by omega), Option.bind_some, app_eq, mk_sz, ← e,
      it1 (by rw [List.length_replicate]; omega), it1 (by simp only [List.length_cons, List.length_nil]; omega)]
def outOf (l : List Int) : ByteArray := ⟨(Lib.join (l.map txtL) [32]).toArray⟩
theorem txtL_len (u : Int) : (txtL u).length ≤ 6 := by
  unfold txtL
  split
  · simp
  · exact (hexU_len u).2.1
theorem joinTail_len (l : List Int) : (Lib.joinTail [32] (l.map txtL)).length ≤ 7 * l.length := by
  unfold Lib.joinTail
  induction l with
  | nil => simp
  | cons x r ih =>
    have := txtL_len x
    simp only [List.map_cons, List.flatten_cons, List.length_append, List.length_cons, List.length_nil] at ih ⊢
    omega
theorem join_len (l : List Int) : (Lib.join (l.map txtL) [32]).length ≤ 7 * l.length := by
  cases l with
  | nil => simp [Lib.join_nil]
  | cons x r =>
    rw [List.map_cons, Lib.join_cons, List.length_append]
    have h1 := txtL_len x
    have h2 := joinTail_len r
    rw [List.length_cons]
    omega
theorem join_snoc (l : List Int) (u : Int) (h : l ≠ []) : Lib.join ((l ++ [u]).map txtL) [32] = Lib.join (l.map txtL) [32] ++ [32] ++ txtL u := by
  cases l with
  | nil => exact absurd rfl h
  | cons x r =>
    rw [List.cons_append, List.map_cons, List.map_cons, Lib.join_cons, Lib.join_cons]
    unfold Lib.joinTail
    simp [List.append_assoc]
theorem cPoints_is (l : List Int) (hl : l.length ≤ 1000) (hu : ∀ n ∈ l, okU n) : chart_Points_i2 l = some (outOf l, l) := by
  unfold chart_Points_i2
  rw [it2 (by omega) (by omega)]
  have key : runLoop chart_Points_i2_b3 ((l.length : Int), (0 : Int), (List.replicate 0 ByteArray.empty), l) = some (l.map txt, l) := by
    have h := runLoop_to (b := chart_Points_i2_b3) (fun i : Nat => i ≤ l.length) (fun i : Nat => ((l.length : Int), (i : Int), (l.take i).map txt, l)) (fun i => l.length - i) (l.map txt, l) (fun i hi => by
      by_cases hlt : i < l.length
      · left
        refine ⟨i + 1, ?_, hlt, by omega⟩
        rw [cstep l hl hu i hlt _ (by rw [List.length_map, List.length_take]; omega), take_succ' l i hlt, List.map_append]
        rfl
      · right
        rw [chart_Points_i2_b3, it0 (by omega), List.take_of_length_le (by omega)]) 0 (Nat.zero_le _)
    exact h
  rw [key]
  simp only [Option.bind_some]
  have hm : (l.map txt).map (fun x => x.data.toList) = l.map txtL := by
    rw [List.map_map]
    exact List.map_congr_left fun u _ => by simp [txt]
  have hj := join_len l
  unfold strings_Join
  rw [hm, mk_list, List.length_map, decide_eq_true (by omega), decide_eq_true (by omega), Bool.and_self, if_pos rfl]
  unfold outOf
  split
  · rename_i h0
    have : l = [] := List.length_eq_zero_iff.1 h0
    subst this
    rfl
  · rfl
end Go.Pc

namespace Go.Pc
open Go Go.Sx Go.Tx
def sB (ds : List Int) : ByteArray := ⟨(ds.map upD).toArray⟩
theorem sB_sz (ds : List Int) : (sB ds).size = ds.length := by
  unfold sB
  rw [mk_sz, List.length_map]
theorem ext1 (s : ByteArray) (i : Nat) (h : i < s.size) : (s.extract i (i + 1)).data.toList = [s.data.toList[i]'(by rw [Array.length_toList]; exact h)] := by
  rw [ByteArray.data_extract, Array.toList_extract, List.extract_eq_take_drop]
  have hl : i < s.data.toList.length := by rw [Array.length_toList]; exact h
  rw [List.drop_eq_getElem_cons hl]
  simp
abbrev DIG : ByteArray := ByteArray.mk (List.toArray [(48 : UInt8), (49 : UInt8), (50 : UInt8), (51 : UInt8), (52 : UInt8), (53 : UInt8), (54 : UInt8), (55 : UInt8), (56 : UInt8), (57 : UInt8), (65 : UInt8), (66 : UInt8), (67 : UInt8), (68 : UInt8), (69 : UInt8), (70 : UInt8)])
theorem dig_ext (n : Int) (h0 : 0 ≤ n) : ByteArray.extract DIG (Int.tmod n 16).toNat (Go.IntKind.wrap .u32 ((Int.tmod n (16 : Int)) + (1 : Int))).toNat = ⟨([upD (n % 16)]).toArray⟩ := by
  have e : Int.tmod n 16 = n % 16 := Int.tmod_eq_emod_of_nonneg h0
  rw [e, wrapu32 _ (by omega) (by omega)]
  have h16 : 0 ≤ n % 16 ∧ n % 16 < 16 := by omega
  generalize n % 16 = q at h16
  obtain ⟨k, rfl⟩ : ∃ k : Nat, q = (k : Int) := ⟨q.toNat, by omega⟩
  have hk : k < 16 := by omega
  rw [show ((k : Int) + 1) = ((k + 1 : Nat) : Int) by omega, Int.toNat_natCast, Int.toNat_natCast]
  have hs : k < DIG.size := by
    show k < (ByteArray.mk (List.toArray up16)).size
    rw [mk_sz]
    exact hk
  have h := ext1 DIG k hs
  have h2 : DIG.data.toList[k]'(by rw [Array.length_toList]; exact hs) = upD (k : Int) := by
    have : ∀ (l : List UInt8) (h : k < l.length), l[k] = l.getD k 0 := fun l h => by simp [h]
    rw [this]
    rfl
  rw [h2] at h
  apply ByteArray.ext
  apply Array.ext'
  rw [h]
theorem bstep (out : ByteArray) (i n : Int) (ds : List Int) (l : List Int) (h : n > 0 ∨ ds.length < 4) (h0 : 0 ≤ n) (h1 : n ≤ 1114111) (hs : ds.length ≤ 10) :
    ref07_Points_b11 (out, i, sB ds, n, l) = some (.inl (out, i, sB (n % 16 :: ds), n / 16, l)) := by
  have e : Int.tmod n 16 = n % 16 := Int.tmod_eq_emod_of_nonneg h0
  have ed : Int.tdiv n 16 = n / 16 := Int.tdiv_eq_ediv_of_nonneg h0
  have hx := dig_ext n h0
  have happ : ByteArray.append ⟨([upD (n % 16)]).toArray⟩ (sB ds) = sB (n % 16 :: ds) := by
    unfold sB
    rw [app_eq]
    rfl
  have hz : (⟨([upD (n % 16)]).toArray⟩ : ByteArray).size = 1 := mk_sz _
  have hg : (((decide ((0 : Int) ≤ (Int.tmod n (16 : Int)))) && (decide ((Int.tmod n (16 : Int)) ≤ (Go.IntKind.wrap .u32 ((Int.tmod n (16 : Int)) + (1 : Int)))))) && (decide ((Go.IntKind.wrap .u32 ((Int.tmod n (16 : Int)) + (1 : Int))) ≤ (16 : Int)))) = true := by
    rw [e, wrapu32 _ (by omega) (by omega), Bool.and_eq_true, Bool.and_eq_true, decide_eq_true_eq, decide_eq_true_eq, decide_eq_true_eq]
    omega
  have hw : Go.IntKind.wrap .u32 (Int.tdiv n (16 : Int)) = n / 16 := by rw [ed, wrapu32 _ (by omega) (by omega)]
  rw [ref07_Points_b11, hw, hx, happ, hg, hz, sB_sz]
  by_cases hn : n > 0
  · rw [it1 hn, itT, it1 (by omega)]
  · rw [it0 hn, it1 (by omega), itT, it1 (by omega)]
theorem bend (out : ByteArray) (i : Int) (ds : List Int) (l : List Int) (h : 4 ≤ ds.length) : ref07_Points_b11 (out, i, sB ds, 0, l) = some (.inr (out, i, sB ds, l)) := by
  rw [ref07_Points_b11, it0 (by omega), sB_sz, it0 (by omega)]
theorem bloop (out : ByteArray) (i n : Int) (l : List Int) (h0 : 0 ≤ n) (h1 : n ≤ 1114111) : runLoop ref07_Points_b11 (out, i, sB [], n, l) = some (out, i, txt n, l) := by
  have htx : txt n = ⟨(List.replicate (4 - (digs n).length) 48 ++ (digs n).map upD).toArray⟩ := by
    unfold txt txtL hexU
    rw [if_neg (by omega)]
  have key : ∀ ds : List Int, ds.map upD = List.replicate (4 - (digs n).length) 48 ++ (digs n).map upD → sB ds = txt n := fun ds h => by
    rw [htx]
    unfold sB
    rw [h]
  have u0 : upD 0 = 48 := by decide
  rw [runLoop_step (bstep out i n [] l (.inr (by simp)) h0 h1 (by simp))]
  rw [runLoop_step (bstep out i (n / 16) [n % 16] l (.inr (by simp)) (by omega) (by omega) (by simp))]
  rw [runLoop_step (bstep out i (n / 16 / 16) [n / 16 % 16, n % 16] l (.inr (by simp)) (by omega) (by omega) (by simp))]
  rw [runLoop_step (bstep out i (n / 16 / 16 / 16) [n / 16 / 16 % 16, n / 16 % 16, n % 16] l (.inr (by simp)) (by omega) (by omega) (by simp))]
  by_cases c4 : n / 16 / 16 / 16 / 16 = 0
  · rw [c4, runLoop_done (bend out i [n / 16 / 16 / 16 % 16, n / 16 / 16 % 16, n / 16 % 16, n % 16] l (by simp))]
    rw [key]
    unfold digs
    by_cases d0 : n < 16
    · rw [if_pos d0, show n / 16 / 16 / 16 % 16 = 0 by omega, show n / 16 / 16 % 16 = 0 by omega, show n / 16 % 16 = 0 by omega, show n % 16 = n by omega]
      simp [u0, List.replicate]
    rw [if_neg d0]
    by_cases d1 : n / 16 < 16
    · rw [if_pos d1, show n / 16 / 16 / 16 % 16 = 0 by omega, show n / 16 / 16 % 16 = 0 by omega, show n / 16 % 16 = n / 16 by omega]
      simp [u0, List.replicate]
    rw [if_neg d1]
    by_cases d2 : n / 16 / 16 < 16
    · rw [if_pos d2, show n / 16 / 16 / 16 % 16 = 0 by omega, show n / 16 / 16 % 16 = n / 16 / 16 by omega]
      simp [u0, List.replicate]
    rw [if_neg d2, if_pos (by omega), show n / 16 / 16 / 16 % 16 = n / 16 / 16 / 16 by omega]
    simp [List.replicate]
  rw [runLoop_step (bstep out i (n / 16 / 16 / 16 / 16) [n / 16 / 16 / 16 % 16, n / 16 / 16 % 16, n / 16 % 16, n % 16] l (.inl (by omega)) (by omega) (by omega) (by simp))]
  have d0 : ¬ n < 16 := by omega
  have d1 : ¬ n / 16 < 16 := by omega
  have d2 : ¬ n / 16 / 16 < 16 := by omega
  have d3 : ¬ n / 16 / 16 / 16 < 16 := by omega
  by_cases c5 : n / 16 / 16 / 16 / 16 / 16 = 0
  · rw [c5, runLoop_done (bend out i [n / 16 / 16 / 16 / 16 % 16, n / 16 / 16 / 16 % 16, n / 16 / 16 % 16, n / 16 % 16, n % 16] l (by simp))]
    rw [key]
    unfold digs
    rw [if_neg d0, if_neg d1, if_neg d2, if_neg d3, if_pos (by omega), show n / 16 / 16 / 16 / 16 % 16 = n / 16 / 16 / 16 / 16 by omega]
    simp [List.replicate]
  rw [runLoop_step (bstep out i (n / 16 / 16 / 16 / 16 / 16) [n / 16 / 16 / 16 / 16 % 16, n / 16 / 16 / 16 % 16, n / 16 / 16 % 16, n / 16 % 16, n % 16] l (.inl (by omega)) (by omega) (by omega) (by simp))]
  rw [show n / 16 / 16 / 16 / 16 / 16 / 16 = 0 by omega, runLoop_done (bend out i [n / 16 / 16 / 16 / 16 / 16 % 16, n / 16 / 16 / 16 / 16 % 16, n / 16 / 16 / 16 % 16, n / 16 / 16 % 16, n / 16 % 16, n % 16] l (by simp))]
  rw [key]
  unfold digs
  rw [if_neg d0, if_neg d1, if_neg d2, if_neg d3, if_neg (by omega), show n / 16 / 16 / 16 / 16 / 16 % 16 = n / 16 / 16 / 16 / 16 / 16 by omega]
  simp [List.replicate]
theorem sB_nil : (ByteArray.mk (List.toArray [])) = sB [] := rfl
theorem rstep (l : List Int) (hl : l.length ≤ 1000) (hu : ∀ n ∈ l, okU n) (i : Nat) (hi : i < l.length) :
    ref07_Points_b3 (outOf (l.take i), (i : Int), l) = some (.inl (outOf (l.take (i + 1)), ((i + 1 : Nat) : Int), l)) := by
  have hn := hu l[i] (List.getElem_mem hi)
  unfold okU at hn
  have hj := join_len (l.take i)
  have hjl : (l.take i).length = i := by rw [List.length_take]; omega
  have hos : (outOf (l.take i)).size ≤ 7 * i := by
    unfold outOf
    rw [mk_sz]
    omega
  have ht := txtL_len l[i]
  have hw := wrapi i _ hi (by omega)
  have h63 : (ByteArray.mk (List.toArray [(63 : UInt8)])) = ⟨([63] : List UInt8).toArray⟩ := rfl
  rw [ref07_Points_b3, Int.toNat_natCast, getD_in l i _ hi, it1 (by omega)]
  rw [take_succ' l i hi]
  by_cases h0 : i = 0
  · subst h0
    rw [it0 (by omega), it2 (by omega) (by omega), it1 (by omega)]
    have e0 : outOf (l.take 0) = ⟨#[]⟩ := rfl
    have eone : outOf (l.take 0 ++ [l[0]]) = txt l[0] := by
      unfold outOf txt
      rw [List.take_zero, List.nil_append, List.map_cons, List.map_nil, Lib.join_one]
    have eapp : ∀ t : List UInt8, ByteArray.append (⟨#[]⟩ : ByteArray) ⟨t.toArray⟩ = ⟨t.toArray⟩ := fun t => app_eq [] t
    rw [eone, e0]
    by_cases hb : l[0] > 1114111
    · rw [it1 hb, it1 (by show 0 + 1 ≤ _; omega), h63, eapp, hw]
      unfold txt txtL
      rw [if_pos hb]
    · have hsz : (txt l[0]).size ≤ 6 := by rw [txt_sz]; exact ht
      rw [it0 hb, it2 (by omega) (by omega), it1 (by omega), sB_nil, bloop _ _ _ _ hn.1 (by omega)]
      simp only [Option.bind_some]
      rw [it1 (by show 0 + _ ≤ _; omega), hw]
      rw [show ByteArray.append (sB []) (txt l[0]) = txt l[0] from eapp (txtL l[0])]
  · have hne : l.take i ≠ [] := fun h => by rw [h] at hjl; simp at hjl; omega
    have e32 : (ByteArray.mk (List.toArray [(32 : UInt8)])) = ⟨([32] : List UInt8).toArray⟩ := rfl
    have eo : ByteArray.append (outOf (l.take i)) (ByteArray.mk (List.toArray [(32 : UInt8)])) = ⟨(Lib.join ((l.take i).map txtL) [32] ++ [32]).toArray⟩ := by
      rw [e32]
      exact app_eq _ _
    have eo2 : ByteArray.append ⟨(Lib.join ((l.take i).map txtL) [32] ++ [32]).toArray⟩ (txt l[i]) = outOf (l.take i ++ [l[i]]) := by
      unfold outOf
      rw [join_snoc _ _ hne]
      exact app_eq _ _
    rw [it1 (by omega), it1 (by omega), it2 (by omega) (by omega), it1 (by omega), eo]
    have hsz1 : (⟨(Lib.join ((l.take i).map txtL) [32] ++ [32]).toArray⟩ : ByteArray).size ≤ 7 * i + 1 := by
      rw [mk_sz, List.length_append]
      simp only [List.length_cons, List.length_nil]
      omega
    by_cases hb : l[i] > 1114111
    · have e63 : txt l[i] = ⟨([63] : List UInt8).toArray⟩ := by
        unfold txt txtL
        rw [if_pos hb]
      rw [it1 hb, it1 (by omega), hw, h63, ← e63, eo2]
    · have hsz : (txt l[i]).size ≤ 6 := by rw [txt_sz]; exact ht
      rw [it0 hb, it2 (by omega) (by omega), it1 (by omega), sB_nil, bloop _ _ _ _ hn.1 (by omega)]
      simp only [Option.bind_some]
      rw [it1 (by omega), hw, eo2]
theorem rPoints_is (l : List Int) (hl : l.length ≤ 1000) (hu : ∀ n ∈ l, okU n) : ref07_Points l = some (outOf l, l) := by
  unfold ref07_Points
  have key : runLoop ref07_Points_b3 ((ByteArray.mk (List.toArray [])), (0 : Int), l) = some (outOf l, l) := by
    have h := runLoop_to (b := ref07_Points_b3) (fun i : Nat => i ≤ l.length) (fun i : Nat => (outOf (l.take i), (i : Int), l)) (fun i => l.length - i) (outOf l, l) (fun i hi => by
      by_cases hlt : i < l.length
      · left
        exact ⟨i + 1, rstep l hl hu i hlt, hlt, by omega⟩
      · right
        rw [ref07_Points_b3, it0 (by omega), List.take_of_length_le (by omega)]) 0 (Nat.zero_le _)
    exact h
  rw [key]
  rfl
end Go.Pc

namespace Go.Pc
open Go Go.Sx Go.Tx
theorem aw_classes : chart_Classes (ByteArray.mk (List.toArray [(48 : UInt8), (51 : UInt8), (48 : UInt8), (48 : UInt8), (32 : UInt8), (48 : UInt8), (51 : UInt8), (49 : UInt8), (52 : UInt8), (32 : UInt8), (50 : UInt8), (51 : UInt8), (48 : UInt8)])) = some ((0 : Int), (0 : Int), [((768 : Int), (788 : Int), (230 : Int))]) := by
  rw [Classes_is _ (by decide)]
  kernel_rfl

theorem aw_loop : runLoop chart_Points_b3 ((2 : Int), (0 : Int), ([] : List ByteArray), [(65 : Int), (1114111 : Int)]) = some ([ByteArray.mk (List.toArray [(48 : UInt8), (48 : UInt8), (52 : UInt8), (49 : UInt8)]), ByteArray.mk (List.toArray [(49 : UInt8), (48 : UInt8), (70 : UInt8), (70 : UInt8), (70 : UInt8), (70 : UInt8)])], [(65 : Int), (1114111 : Int)]) :=
  runLoop_of (n := 4) (by kernel_rfl)

theorem aw_points : chart_Points [(65 : Int), (1114111 : Int)] = some (ByteArray.mk (List.toArray [(48 : UInt8), (48 : UInt8), (52 : UInt8), (49 : UInt8), (32 : UInt8), (49 : UInt8), (48 : UInt8), (70 : UInt8), (70 : UInt8), (70 : UInt8), (70 : UInt8)]), [(65 : Int), (1114111 : Int)]) := by
  unfold chart_Points
  rw [if_pos (by kernel_rfl)]
  exact (congrArg (fun o => Option.bind o _) aw_loop).trans (by kernel_rfl)

theorem law07_awake_is : law07_awake = some true := by
  unfold law07_awake
  rw [aw_classes, aw_points]
  kernel_rfl
end Go.Pc

namespace Go.Pc
open Go Go.Sx Go.Tx
theorem isB_lst (s : ByteArray) (t : List UInt8) : isB s t = List.beq s.data.toList t := by
  unfold isB
  rw [ByteArray.toList_eq, ByteArray.toList_eq]
theorem spl_one (c : UInt8) : ∀ w : List UInt8, (∀ b ∈ w, b ≠ c) → spl c w = [w]
  | [], _ => rfl
  | b :: r, h => by
    unfold spl
    rw [if_neg (h b List.mem_cons_self), spl_one c r (fun b hb => h b (List.mem_cons_of_mem _ hb))]
theorem spl_app (c : UInt8) (s : List UInt8) : ∀ w : List UInt8, (∀ b ∈ w, b ≠ c) → spl c (w ++ c :: s) = w :: spl c s
  | [], _ => by
    show spl c (c :: s) = _
    conv => lhs; unfold spl
    rw [if_pos rfl]
  | b :: r, h => by
    show spl c (b :: (r ++ c :: s)) = _
    conv => lhs; unfold spl
    rw [if_neg (h b List.mem_cons_self), spl_app c s r (fun b hb => h b (List.mem_cons_of_mem _ hb))]
theorem spl_join (c : UInt8) : ∀ (x : List UInt8) (r : List (List UInt8)), (∀ w ∈ x :: r, ∀ b ∈ w, b ≠ c) → spl c (Lib.join (x :: r) [c]) = x :: r
  | x, [], h => by
    rw [Lib.join_one]
    exact spl_one c x (h x List.mem_cons_self)
  | x, y :: r, h => by
    have e : Lib.join (x :: y :: r) [c] = x ++ c :: Lib.join (y :: r) [c] := by
      rw [Lib.join_cons, Lib.join_cons]
      unfold Lib.joinTail
      simp
    rw [e, spl_app c _ x (h x List.mem_cons_self), spl_join c y r (fun w hw => h w (List.mem_cons_of_mem _ hw))]
theorem txtL_mem (u : Int) (h0 : 0 ≤ u) : ∀ b ∈ txtL u, b ≠ 32 ∧ b ≠ 10 := by
  unfold txtL
  split
  · intro b hb
    rw [List.mem_singleton.1 hb]
    exact ⟨by decide, by decide⟩
  · intro b hb
    exact (hexU_mem u h0 (by omega) b hb).2
theorem join_mem (l : List Int) (h : ∀ n ∈ l, 0 ≤ n) : ∀ b ∈ Lib.join (l.map txtL) [32], b ≠ 10 := by
  cases l with
  | nil =>
    intro b hb
    rw [List.map_nil, Lib.join_nil] at hb
    cases hb
  | cons x r =>
    intro b hb
    rw [List.map_cons, Lib.join_cons] at hb
    rcases List.mem_append.1 hb with hb | hb
    · exact (txtL_mem x (h x List.mem_cons_self) b hb).2
    · unfold Lib.joinTail at hb
      obtain ⟨w, hw, hb⟩ := List.mem_flatten.1 hb
      obtain ⟨t, ht, rfl⟩ := List.mem_map.1 hw
      obtain ⟨u, hu, rfl⟩ := List.mem_map.1 ht
      rcases List.mem_append.1 hb with hb | hb
      · rw [List.mem_singleton.1 hb]; decide
      · exact (txtL_mem u (h u (List.mem_cons_of_mem _ hu)) b hb).2
def pre : List UInt8 := [48, 48, 52, 49, 32, 61, 32]
def lineU (l : List Int) : ByteArray := ⟨(pre ++ Lib.join (l.map txtL) [32]).toArray⟩
theorem lineU_lines (x : Int) (r : List Int) (h : ∀ n ∈ x :: r, 0 ≤ n) : linesOf (lineU (x :: r)) = [⟨#[48, 48, 52, 49]⟩ :: ⟨#[61]⟩ :: (x :: r).map txt] := by
  have hd : (lineU (x :: r)).data.toList = pre ++ Lib.join ((x :: r).map txtL) [32] := mk_list _
  have hz : (lineU (x :: r)).size ≠ 0 := by
    unfold lineU
    rw [mk_sz, List.length_append]
    show 7 + _ ≠ 0
    omega
  unfold linesOf
  rw [if_neg hz]
  have h10 : spB 10 (lineU (x :: r)) = [lineU (x :: r)] := by
    unfold spB
    rw [hd, spl_one 10 _ (fun b hb => by
      rcases List.mem_append.1 hb with hb | hb
      · have : ∀ b ∈ pre, b ≠ 10 := by decide
        exact this b hb
      · exact join_mem (x :: r) h b hb)]
    rfl
  rw [h10, List.map_cons, List.map_nil]
  congr 1
  unfold spB
  rw [hd]
  have e1 : pre ++ Lib.join ((x :: r).map txtL) [32] = [48, 48, 52, 49] ++ 32 :: ([61] ++ 32 :: Lib.join ((x :: r).map txtL) [32]) := rfl
  rw [e1, spl_app 32 _ _ (by decide), spl_app 32 _ _ (by decide), List.map_cons (f := txtL), spl_join 32 (txtL x) (r.map txtL) (fun w hw b hb => by
    have hw' : w ∈ (x :: r).map txtL := hw
    obtain ⟨u, hu, rfl⟩ := List.mem_map.1 hw'
    exact (txtL_mem u (h u hu) b hb).1)]
  show _ :: _ :: ((txtL x :: r.map txtL).map _) = _
  have e2 : (txtL x :: r.map txtL).map (fun l => (⟨l.toArray⟩ : ByteArray)) = (x :: r).map txt := by
    rw [← List.map_cons, List.map_map]
    rfl
  rw [e2]
def okP (n : Int) : Bool := decide (n ≤ 1114111)
theorem pts_all (l : List Int) (h : ∀ n ∈ l, 0 ≤ n) : ptsOK (l.map txt) = l.all okP := by
  unfold ptsOK
  induction l with
  | nil => rfl
  | cons x r ih =>
    rw [List.map_cons, List.all_cons, List.all_cons, ih (fun n hn => h n (List.mem_cons_of_mem _ hn)), (txt_pt x (h x List.mem_cons_self)).1]
    rfl
theorem dec_is (x : Int) (r : List Int) (h : ∀ n ∈ x :: r, 0 ≤ n) (hl : (x :: r).length ≤ 3) :
    chart_Decomps (lineU (x :: r)) = some (if (x :: r).all okP then (0, 0, [(65, x :: r, false, false)]) else (3, 1, [])) := by
  have hsz : (lineU (x :: r)).size ≤ 1000000 := by
    unfold lineU
    rw [mk_sz, List.length_append]
    have := join_len (x :: r)
    have hp : pre.length = 7 := rfl
    omega
  rw [Decomps_is _ hsz, lineU_lines x r h]
  have hone : oneDecomp (⟨#[48, 48, 52, 49]⟩ :: ⟨#[61]⟩ :: (x :: r).map txt) [] = if (x :: r).all okP then some (65, x :: r, false, false) else none := by
    unfold oneDecomp
    rw [List.map_cons]
    simp only
    rw [← List.map_cons, pts_all _ h]
    have e1 : ptOK ⟨#[48, 48, 52, 49]⟩ = true := by decide
    have e2 : (decide (1 ≤ (⟨#[61]⟩ : ByteArray).size) && decide ((⟨#[61]⟩ : ByteArray).size ≤ 1) && allIn signsB ⟨#[61]⟩) = true := by decide
    have e3 : ((ptN ⟨#[48, 48, 52, 49]⟩ : Nat) : Int) = 65 := by decide
    have e4 : isB ⟨#[61]⟩ [126] = false := by rw [isB_lst]; rfl
    have e5 : isB ⟨#[61]⟩ [33] = false := by rw [isB_lst]; rfl
    have e6 : decide ((((x :: r).map txt)).length ≤ 3) = true := decide_eq_true (by rw [List.length_map]; exact hl)
    rw [e1, e2, e3, e4, e5, e6]
    have e7 : aheadI (Option.map (fun e : Int × List Int × Bool × Bool => e.1) ([] : List (Int × List Int × Bool × Bool)).getLast?) 65 = true := rfl
    rw [e7]
    cases ha : (x :: r).all okP with
    | true =>
      rw [if_pos (by rfl), if_pos rfl]
      have e8 : ((x :: r).map txt).map (fun x => ((ptN x : Nat) : Int)) = x :: r := by
        rw [List.map_map]
        have : (x :: r).map ((fun x => ((ptN x : Nat) : Int)) ∘ txt) = (x :: r).map id := List.map_congr_left fun u hu => by
          have hk := List.all_eq_true.1 ha u hu
          exact (txt_pt u (h u hu)).2 (of_decide_eq_true hk)
        rw [this, List.map_id]
      rw [e8]
    | false => rw [if_neg (by simp), if_neg (by simp)]
  unfold readR
  rw [hone]
  cases (x :: r).all okP with
  | true => rfl
  | false => rfl
theorem same_is (l : List Int) (hl : l.length ≤ 1000) : law07_same l l = some (true, l, l) := by
  unfold law07_same
  have key : runLoop law07_same_b4 ((l.length : Int), (0 : Int), l, l) = some (.inr (l, l)) := by
    have h := runLoop_to (b := law07_same_b4) (fun i : Nat => i ≤ l.length) (fun i : Nat => ((l.length : Int), (i : Int), l, l)) (fun i => l.length - i) (.inr (l, l)) (fun i hi => by
      by_cases hlt : i < l.length
      · left
        refine ⟨i + 1, ?_, hlt, by omega⟩
        rw [law07_same_b4, Int.toNat_natCast, wrapi i _ hlt (by omega), it1 (by omega), it2 (by omega) (by omega), it1 (by omega), it2 (by omega) (by omega), it1 (by omega)]
        simp
      · right
        rw [law07_same_b4, it0 (by omega)]) 0 (Nat.zero_le _)
    exact h
  rw [key]
  simp
theorem okloop (s : ByteArray) (l : List Int) (hl : l.length ≤ 1000) : runLoop law07_ChartPoints_b12 (s, true, (l.length : Int), (0 : Int), l) = some (s, l.all okP, l) := by
  have h := runLoop_to (b := law07_ChartPoints_b12) (fun i : Nat => i ≤ l.length) (fun i : Nat => (s, (l.take i).all okP, (l.length : Int), (i : Int), l)) (fun i => l.length - i) (s, l.all okP, l) (fun i hi => by
    by_cases hlt : i < l.length
    · left
      refine ⟨i + 1, ?_, hlt, by omega⟩
      rw [take_succ' l i hlt, List.all_append]
      rw [law07_ChartPoints_b12, Int.toNat_natCast, getD_in l i _ hlt, wrapi i _ hlt (by omega), it1 (by omega), it2 (by omega) (by omega), it1 (by omega)]
      cases (l.take i).all okP with
      | true => rw [itT]; simp [okP]
      | false => rw [itF]; simp
    · right
      rw [law07_ChartPoints_b12, it0 (by omega), List.take_of_length_le (by omega)]) 0 (Nat.zero_le _)
  exact h
theorem ChartPoints_is (l : List Int) (hu : ∀ n ∈ l, okU n) : law07_ChartPoints l = some (true, l) := by
  unfold law07_ChartPoints
  rw [law07_awake_is]
  simp only [Option.bind_some, Bool.not_true, Bool.false_eq_true, if_false]
  by_cases h60 : l.length ≤ 60
  case neg => rw [it1 (by omega)]
  rw [it0 (by omega), cPoints_is l (by omega) hu]
  simp only [Option.bind_some]
  rw [rPoints_is l (by omega) hu]
  simp only [Option.bind_some]
  have hb : List.beq (ByteArray.toList (outOf l)) (ByteArray.toList (outOf l)) = true := by
    show (ByteArray.toList (outOf l) == ByteArray.toList (outOf l)) = true
    exact BEq.rfl
  rw [hb]
  simp only [Bool.not_true, Bool.false_eq_true, if_false]
  by_cases h0 : l.length = 0
  · rw [it1 (by omega)]
  rw [it0 (by omega)]
  by_cases h3 : l.length ≤ 3
  case neg => rw [it1 (by omega)]
  rw [it0 (by omega), okloop _ l (by omega)]
  simp only [Option.bind_some]
  have hos : (outOf l).size ≤ 7 * l.length := by
    unfold outOf
    rw [mk_sz]
    exact join_len l
  rw [it1 (by omega)]
  have happ : ByteArray.append (ByteArray.mk (List.toArray [(48 : UInt8), (48 : UInt8), (52 : UInt8), (49 : UInt8), (32 : UInt8), (61 : UInt8), (32 : UInt8)])) (outOf l) = lineU l := app_eq pre _
  rw [happ]
  match l, h0, h3, hu with
  | [], h0, _, _ => exact absurd rfl h0
  | x :: r, _, h3, hu =>
    rw [dec_is x r (fun n hn => (hu n hn).1) h3]
    simp only [Option.bind_some]
    cases ha : (x :: r).all okP with
    | true =>
      simp only [if_true]
      rw [it1 (by simp)]
      simp only [Bool.not_true, Bool.false_eq_true, if_false]
      rw [it1 (by simp), it1 (by simp), it1 (by simp)]
      rw [show ([((65 : Int), x :: r, false, false)].getD 0 ((0 : Int), ([], (false, false)))).2.1 = x :: r from rfl, same_is (x :: r) (by omega)]
      rfl
    | false =>
      simp only [Bool.false_eq_true, if_false]
      rw [it1 (by simp)]
      simp
end Go.Pc

namespace Go.Sx
open Go
theorem HRel.start (w : World) : HRel (fun _ => False) (fun k => k < w.heap.size) (fun _ _ => none) (fun _ _ => False) (findE []) w where
  ent b e h := by cases h
  non b h k hk := hk
  dom b u h := absurd rfl h
  one b u x h := by cases h
  disj b b' k h _ := h.elim
  ro b k h := h.elim
  rofr k h := ⟨fun h => h, h⟩
  fr k h := h.elim

end Go.Sx
