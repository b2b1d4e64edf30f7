/- Part 35 of the proof of the statement that the last part names; it asks for no condition of its own. Here: PcSp2. -/
import Derived.Test.YtgkfbembnlgahaaGreatDoorQbh
set_option linter.unusedVariables false
set_option linter.unusedSimpArgs false
set_option maxRecDepth 100000
set_option maxHeartbeats 0
namespace Go.Pc
open Go Go.Sx Go.Tx
theorem beqL_comm (a b : List UInt8) : List.beq a b = List.beq b a := by
  show (a == b) = (b == a)
  exact BEq.comm
def eqB (s x : ByteArray) : Bool := List.beq (ByteArray.toList x) (ByteArray.toList s)
theorem wrap1 (i n : Nat) (h : i < n) (hn : n ≤ 1000000000) : IntKind.i64.wrap ((i : Int) + 1) = ((i + 1 : Nat) : Int) := by rw [wrap_i64] <;> omega
theorem Index_is (v : ByteArray) (l : List ByteArray) (h : l.length ≤ 1000000) : slices_Index__ v l = some (match l.findIdx? (eqB v) with
    | some k => (k : Int)
    | none => -1, l) := by
  unfold slices_Index__
  have key := scan0 (b := slices_Index___b2) l (eqB v) (fun i => (v, (l.length : Int), (i : Int), l)) (fun k => .inl ((k : Int), l)) (.inr l) (fun i hi => by
    rw [slices_Index___b2, Int.toNat_natCast, getD_in l i ByteArray.empty hi, wrap1 i _ hi (by omega), it1 (by omega), it2 (by omega) (by omega), it1 (by omega), beqL_comm]
    rfl) (by rw [slices_Index___b2, it0 (by omega)])
  have key' : runLoop slices_Index___b2 (v, (l.length : Int), (0 : Int), l) = _ := key
  rw [key']
  cases List.findIdx? (eqB v) l <;> rfl
theorem Contains_is (v : ByteArray) (l : List ByteArray) (h : l.length ≤ 1000000) : slices_Contains__ v l = some (l.any (eqB v), l) := by
  unfold slices_Contains__
  rw [Index_is v l h, ← findIdx_any]
  cases List.findIdx? (eqB v) l with
  | none => rfl
  | some k =>
    show some (decide ((k : Int) ≥ 0), l) = _
    rw [decide_eq_true (by omega)]
    rfl
theorem One_is (v : ByteArray) (l : List ByteArray) (h : l.length ≤ 1000000) : ref08_One v l = some (l.any (eqB v), l) := by
  unfold ref08_One
  have key := scan0 (b := ref08_One_b2) l (eqB v) (fun i => (v, (i : Int), l)) (fun k => .inl (true, l)) (.inr l) (fun i hi => by
    rw [ref08_One_b2, Int.toNat_natCast, getD_in l i ByteArray.empty hi, wrap1 i _ hi (by omega), it1 (by omega), it2 (by omega) (by omega), it1 (by omega)]
    rfl) (by rw [ref08_One_b2, it0 (by omega)])
  have key' : runLoop ref08_One_b2 (v, (0 : Int), l) = _ := key
  rw [key', ← findIdx_any]
  cases List.findIdx? (eqB v) l <;> rfl
def zRg : Rg := ((0 : Int), ((0 : Int), (ByteArray.empty, (ByteArray.empty, (ByteArray.empty, false)))))
theorem filt_len {T : Type} (l : List T) (q : T → Bool) : (l.filter q).length ≤ l.length := List.length_filter_le q l
section
variable (R : List Rg) (l1 : List (Int × Int × Int)) (D : List Dc) (l3 l4 : List (Int × Int × Int)) (S : List Nm)
theorem ranged_is (hR : RInv R) (hl : R.length ≤ 10000) (a : Bool) : tables_Tables_ranged a R l1 D l3 l4 S = some (mrg (spR R (fun r => a || !r.2.2.2.2.2)), a, R, l1, D, l3, l4, S) := by
  unfold tables_Tables_ranged
  have key := gath0 (b := tables_Tables_ranged_b5) R (fun r => a || !r.2.2.2.2.2) (fun r => (r.1, r.2.1)) (fun i acc => ((R.length : Int), (i : Int), a, R, l1, D, l3, l4, S, acc)) (fun acc => (acc, a, R, l1, D, l3, l4, S)) (fun i hi acc ha => by
    have h1 : ∀ r : Rg, tables_Tables_Assigned_1 r.1 r.2.1 r.2.2.1 r.2.2.2.1 r.2.2.2.2.1 r.2.2.2.2.2 a = some (a || !r.2.2.2.2.2, a) := fun r => by unfold tables_Tables_Assigned_1; cases a <;> rfl
    rw [tables_Tables_ranged_b5, Int.toNat_natCast, getD_in R i _ hi, wrap1 i _ hi (by omega), it1 (by omega), it2 (by omega) (by omega), it1 (by omega), h1]
    simp only [Option.bind_some]
    generalize hq : (fun r : Rg => a || !r.2.2.2.2.2) R[i] = qv
    have hq' : ((a || !(R[i]).2.2.2.2.2) : Bool) = qv := hq
    rw [hq']
    cases qv with
    | true => rw [itT, it1 (by simp only [List.length_cons, List.length_nil]; omega), if_pos rfl]
    | false => rw [itF, if_neg (by simp)]) (fun acc => by rw [tables_Tables_ranged_b5, it0 (by omega)])
  have key' : runLoop tables_Tables_ranged_b5 ((R.length : Int), (0 : Int), a, R, l1, D, l3, l4, S, []) = _ := key
  rw [key']
  simp only [Option.bind_some]
  have hm : tables_Merge_i2 ((R.filter (fun r => a || !r.2.2.2.2.2)).map (fun r => (r.1, r.2.1))) = some (mrg (spR R (fun r => a || !r.2.2.2.2.2)), spR R (fun r => a || !r.2.2.2.2.2)) := Merge2_is (spR_ok hR (fun r => a || !r.2.2.2.2.2)) (by rw [List.length_map]; have := filt_len R (fun r => a || !r.2.2.2.2.2); omega)
  rw [hm]
  rfl

theorem ranged_i2_is (hR : RInv R) (hl : R.length ≤ 10000) (n : List ByteArray) (hn : n.length ≤ 1000000) : tables_Tables_ranged_i2 R l1 D l3 l4 S n = some (mrg (spR R (fun r => n.any (eqB r.2.2.1))), R, l1, D, l3, l4, S, n) := by
  unfold tables_Tables_ranged_i2
  have key := gath0 (b := tables_Tables_ranged_i2_b5) R (fun r => n.any (eqB r.2.2.1)) (fun r => (r.1, r.2.1)) (fun i acc => ((R.length : Int), (i : Int), R, l1, D, l3, l4, S, n, acc)) (fun acc => (acc, R, l1, D, l3, l4, S, n)) (fun i hi acc ha => by
    have h1 : ∀ r : Rg, tables_Tables_Cats_1 r.1 r.2.1 r.2.2.1 r.2.2.2.1 r.2.2.2.2.1 r.2.2.2.2.2 n = some (n.any (eqB r.2.2.1), n) := fun r => by unfold tables_Tables_Cats_1; rw [Contains_is _ _ hn]; rfl
    rw [tables_Tables_ranged_i2_b5, Int.toNat_natCast, getD_in R i _ hi, wrap1 i _ hi (by omega), it1 (by omega), it2 (by omega) (by omega), it1 (by omega), h1]
    simp only [Option.bind_some]
    generalize hq : (fun r : Rg => n.any (eqB r.2.2.1)) R[i] = qv
    have hq' : ((n.any (eqB (R[i]).2.2.1)) : Bool) = qv := hq
    rw [hq']
    cases qv with
    | true => rw [itT, it1 (by simp only [List.length_cons, List.length_nil]; omega), if_pos rfl]
    | false => rw [itF, if_neg (by simp)]) (fun acc => by rw [tables_Tables_ranged_i2_b5, it0 (by omega)])
  have key' : runLoop tables_Tables_ranged_i2_b5 ((R.length : Int), (0 : Int), R, l1, D, l3, l4, S, n, []) = _ := key
  rw [key']
  simp only [Option.bind_some]
  have hm : tables_Merge_i2 ((R.filter (fun r => n.any (eqB r.2.2.1))).map (fun r => (r.1, r.2.1))) = some (mrg (spR R (fun r => n.any (eqB r.2.2.1))), spR R (fun r => n.any (eqB r.2.2.1))) := Merge2_is (spR_ok hR (fun r => n.any (eqB r.2.2.1))) (by rw [List.length_map]; have := filt_len R (fun r => n.any (eqB r.2.2.1)); omega)
  rw [hm]
  rfl

theorem ranged_i3_is (hR : RInv R) (hl : R.length ≤ 10000) (n : List ByteArray) (hn : n.length ≤ 1000000) : tables_Tables_ranged_i3 R l1 D l3 l4 S n = some (mrg (spR R (fun r => n.any (eqB r.2.2.2.1))), R, l1, D, l3, l4, S, n) := by
  unfold tables_Tables_ranged_i3
  have key := gath0 (b := tables_Tables_ranged_i3_b5) R (fun r => n.any (eqB r.2.2.2.1)) (fun r => (r.1, r.2.1)) (fun i acc => ((R.length : Int), (i : Int), R, l1, D, l3, l4, S, n, acc)) (fun acc => (acc, R, l1, D, l3, l4, S, n)) (fun i hi acc ha => by
    have h1 : ∀ r : Rg, tables_Tables_Sides_1 r.1 r.2.1 r.2.2.1 r.2.2.2.1 r.2.2.2.2.1 r.2.2.2.2.2 n = some (n.any (eqB r.2.2.2.1), n) := fun r => by unfold tables_Tables_Sides_1; rw [Contains_is _ _ hn]; rfl
    rw [tables_Tables_ranged_i3_b5, Int.toNat_natCast, getD_in R i _ hi, wrap1 i _ hi (by omega), it1 (by omega), it2 (by omega) (by omega), it1 (by omega), h1]
    simp only [Option.bind_some]
    generalize hq : (fun r : Rg => n.any (eqB r.2.2.2.1)) R[i] = qv
    have hq' : ((n.any (eqB (R[i]).2.2.2.1)) : Bool) = qv := hq
    rw [hq']
    cases qv with
    | true => rw [itT, it1 (by simp only [List.length_cons, List.length_nil]; omega), if_pos rfl]
    | false => rw [itF, if_neg (by simp)]) (fun acc => by rw [tables_Tables_ranged_i3_b5, it0 (by omega)])
  have key' : runLoop tables_Tables_ranged_i3_b5 ((R.length : Int), (0 : Int), R, l1, D, l3, l4, S, n, []) = _ := key
  rw [key']
  simp only [Option.bind_some]
  have hm : tables_Merge_i2 ((R.filter (fun r => n.any (eqB r.2.2.2.1))).map (fun r => (r.1, r.2.1))) = some (mrg (spR R (fun r => n.any (eqB r.2.2.2.1))), spR R (fun r => n.any (eqB r.2.2.2.1))) := Merge2_is (spR_ok hR (fun r => n.any (eqB r.2.2.2.1))) (by rw [List.length_map]; have := filt_len R (fun r => n.any (eqB r.2.2.2.1)); omega)
  rw [hm]
  rfl

theorem ranged_i4_is (hR : RInv R) (hl : R.length ≤ 10000) (n : ByteArray) (hn : n.size ≤ 1000000) : tables_Tables_ranged_i4 n R l1 D l3 l4 S = some (mrg (spR R (fun r => Lib.contains n.data.toList r.2.2.2.2.1.data.toList)), n, R, l1, D, l3, l4, S) := by
  unfold tables_Tables_ranged_i4
  have key := gath0 (b := tables_Tables_ranged_i4_b5) R (fun r => Lib.contains n.data.toList r.2.2.2.2.1.data.toList) (fun r => (r.1, r.2.1)) (fun i acc => ((R.length : Int), (i : Int), n, R, l1, D, l3, l4, S, acc)) (fun acc => (acc, n, R, l1, D, l3, l4, S)) (fun i hi acc ha => by
    have h1 : ∀ r : Rg, tables_Tables_Joins_1 r.1 r.2.1 r.2.2.1 r.2.2.2.1 r.2.2.2.2.1 r.2.2.2.2.2 n = some (Lib.contains n.data.toList r.2.2.2.2.1.data.toList, n) := fun r => by unfold tables_Tables_Joins_1 strings_Contains; rw [it1 (by omega)]; rfl
    rw [tables_Tables_ranged_i4_b5, Int.toNat_natCast, getD_in R i _ hi, wrap1 i _ hi (by omega), it1 (by omega), it2 (by omega) (by omega), it1 (by omega), h1]
    simp only [Option.bind_some]
    generalize hq : (fun r : Rg => Lib.contains n.data.toList r.2.2.2.2.1.data.toList) R[i] = qv
    have hq' : ((Lib.contains n.data.toList (R[i]).2.2.2.2.1.data.toList) : Bool) = qv := hq
    rw [hq']
    cases qv with
    | true => rw [itT, it1 (by simp only [List.length_cons, List.length_nil]; omega), if_pos rfl]
    | false => rw [itF, if_neg (by simp)]) (fun acc => by rw [tables_Tables_ranged_i4_b5, it0 (by omega)])
  have key' : runLoop tables_Tables_ranged_i4_b5 ((R.length : Int), (0 : Int), n, R, l1, D, l3, l4, S, []) = _ := key
  rw [key']
  simp only [Option.bind_some]
  have hm : tables_Merge_i2 ((R.filter (fun r => Lib.contains n.data.toList r.2.2.2.2.1.data.toList)).map (fun r => (r.1, r.2.1))) = some (mrg (spR R (fun r => Lib.contains n.data.toList r.2.2.2.2.1.data.toList)), spR R (fun r => Lib.contains n.data.toList r.2.2.2.2.1.data.toList)) := Merge2_is (spR_ok hR (fun r => Lib.contains n.data.toList r.2.2.2.2.1.data.toList)) (by rw [List.length_map]; have := filt_len R (fun r => Lib.contains n.data.toList r.2.2.2.2.1.data.toList); omega)
  rw [hm]
  rfl

theorem Assigned_is (hR : RInv R) (hl : R.length ≤ 10000) (a : Bool) : tables_Tables_Assigned a R l1 D l3 l4 S = some (mrg (spR R (fun r => a || !r.2.2.2.2.2)), R, l1, D, l3, l4, S) := by
  unfold tables_Tables_Assigned
  rw [ranged_is R l1 D l3 l4 S hR hl a]
  rfl
theorem Cats_is (hR : RInv R) (hl : R.length ≤ 10000) (n : List ByteArray) (hn : n.length ≤ 1000000) : tables_Tables_Cats n R l1 D l3 l4 S = some (mrg (spR R (fun r => n.any (eqB r.2.2.1))), n, R, l1, D, l3, l4, S) := by
  unfold tables_Tables_Cats
  rw [ranged_i2_is R l1 D l3 l4 S hR hl n hn]
  rfl
theorem Sides_is (hR : RInv R) (hl : R.length ≤ 10000) (n : List ByteArray) (hn : n.length ≤ 1000000) : tables_Tables_Sides n R l1 D l3 l4 S = some (mrg (spR R (fun r => n.any (eqB r.2.2.2.1))), n, R, l1, D, l3, l4, S) := by
  unfold tables_Tables_Sides
  rw [ranged_i3_is R l1 D l3 l4 S hR hl n hn]
  rfl
theorem Joins_is (hR : RInv R) (hl : R.length ≤ 10000) (n : ByteArray) (hn : n.size ≤ 1000000) : tables_Tables_Joins n R l1 D l3 l4 S = some (mrg (spR R (fun r => Lib.contains n.data.toList r.2.2.2.2.1.data.toList)), R, l1, D, l3, l4, S) := by
  unfold tables_Tables_Joins
  rw [ranged_i4_is R l1 D l3 l4 S hR hl n hn]
  rfl
theorem Set_is (hS : SInv S) (hl : S.length ≤ 10000) (n : ByteArray) : tables_Tables_Set n R l1 D l3 l4 S = some (mrg (spN S n), S, R, l1, D, l3, l4) := by
  unfold tables_Tables_Set
  have key := gath0 (b := tables_Tables_Set_b5) S (nmOf n) (fun r => (r.2.1, r.2.2)) (fun i acc => (n, (S.length : Int), (i : Int), S, R, l1, D, l3, l4, acc)) (fun acc => (acc, S, R, l1, D, l3, l4)) (fun i hi acc ha => by
    rw [tables_Tables_Set_b5, Int.toNat_natCast, getD_in S i _ hi, wrap1 i _ hi (by omega), it1 (by omega), it2 (by omega) (by omega), it1 (by omega)]
    unfold nmOf
    generalize List.beq (ByteArray.toList (S[i]).1) (ByteArray.toList n) = qv
    cases qv with
    | true => rw [itT, it1 (by simp only [List.length_cons, List.length_nil]; omega), if_pos rfl]
    | false => rw [itF, if_neg (by simp)]) (fun acc => by rw [tables_Tables_Set_b5, it0 (by omega)])
  have key' : runLoop tables_Tables_Set_b5 (n, (S.length : Int), (0 : Int), S, R, l1, D, l3, l4, []) = _ := key
  rw [key']
  simp only [Option.bind_some]
  have hm : tables_Merge_i2 ((S.filter (nmOf n)).map (fun r => (r.2.1, r.2.2))) = some (mrg (spN S n), spN S n) := Merge2_is (spN_ok hS n) (by rw [List.length_map]; have := filt_len S (nmOf n); omega)
  rw [hm]
  rfl
theorem Alike_is (hD : DInv D) (hl : D.length ≤ 10000) : tables_Tables_Alike R l1 D l3 l4 S = some (mrg (spD D), D, R, l1, l3, l4, S) := by
  unfold tables_Tables_Alike
  have key := gath0 (b := tables_Tables_Alike_b5) D (fun d => d.2.2.1) (fun d => (d.1, d.1)) (fun i acc => ((D.length : Int), (i : Int), D, R, l1, l3, l4, S, acc)) (fun acc => (acc, D, R, l1, l3, l4, S)) (fun i hi acc ha => by
    rw [tables_Tables_Alike_b5, Int.toNat_natCast, getD_in D i _ hi, wrap1 i _ hi (by omega), it1 (by omega), it2 (by omega) (by omega), it1 (by omega)]
    generalize (D[i]).2.2.1 = qv
    cases qv with
    | true => rw [itT, it1 (by simp only [List.length_cons, List.length_nil]; omega), if_pos rfl]
    | false => rw [itF, if_neg (by simp)]) (fun acc => by rw [tables_Tables_Alike_b5, it0 (by omega)])
  have key' : runLoop tables_Tables_Alike_b5 ((D.length : Int), (0 : Int), D, R, l1, l3, l4, S, []) = _ := key
  rw [key']
  simp only [Option.bind_some]
  have hm : tables_Merge_i2 ((D.filter (fun d => d.2.2.1)).map (fun d => (d.1, d.1))) = some (mrg (spD D), spD D) := Merge2_is (spD_ok hD) (by rw [List.length_map]; have := filt_len D (fun d => d.2.2.1); omega)
  rw [hm]
  rfl
theorem rSet_is (hl : S.length ≤ 10000) (n : ByteArray) (p : Int) : ref08_Tables_Set n p R l1 D l3 l4 S = some (S.any (fun r => nmOf n r && hasN p r), R, l1, D, l3, l4, S) := by
  unfold ref08_Tables_Set
  have key := scan0 (b := ref08_Tables_Set_b2) S (fun r => nmOf n r && hasN p r) (fun i => (n, p, (i : Int), R, l1, D, l3, l4, S)) (fun k => .inl (true, R, l1, D, l3, l4, S)) (.inr (R, l1, D, l3, l4, S)) (fun i hi => by
    rw [ref08_Tables_Set_b2, Int.toNat_natCast, getD_in S i _ hi, wrap1 i _ hi (by omega), it1 (by omega), it2 (by omega) (by omega), it1 (by omega)]
    unfold nmOf hasN
    generalize List.beq (ByteArray.toList (S[i]).1) (ByteArray.toList n) = qv
    cases qv with
    | true =>
      rw [itT, it2 (by omega) (by omega), it1 (by omega), has_eq]
      rfl
    | false => rw [itF]; rfl) (by rw [ref08_Tables_Set_b2, it0 (by omega)])
  have key' : runLoop ref08_Tables_Set_b2 (n, p, (0 : Int), R, l1, D, l3, l4, S) = _ := key
  rw [key', ← findIdx_any]
  cases List.findIdx? (fun r => nmOf n r && hasN p r) S <;> rfl
end
theorem contains_one (x : UInt8) : ∀ l : List UInt8, Lib.contains l [x] = l.any (fun y => y == x)
  | [] => by
    unfold Lib.contains Lib.index
    rfl
  | y :: l => by
    have ih := contains_one x l
    unfold Lib.contains at ih ⊢
    unfold Lib.index
    have hp : [x].isPrefixOf (y :: l) = (y == x) := by
      show ((x == y) && List.isPrefixOf [] l) = _
      rw [BEq.comm (a := x)]
      cases l <;> exact Bool.and_true _
    rw [hp, List.any_cons]
    cases hq : (y == x) with
    | true => simp
    | false =>
      simp only [Bool.false_eq_true, if_false, Bool.false_or]
      rw [← ih]
      rcases Lib.index_spec l [x] with ⟨h1, _⟩ | ⟨i, h1, _⟩
      · rw [h1]; rfl
      · rw [h1]
        have : ((i : Int) == -1) = false := by rw [beq_eq_false_iff_ne]; omega
        rw [this]
        simp only [Bool.false_eq_true, if_false]
        rw [Bool.eq_iff_iff, decide_eq_true_eq, decide_eq_true_eq]
        omega
theorem extract_one (s : ByteArray) (i : Nat) (h : i < s.size) : (s.extract i (i + 1)).data.toList = [s.data.toList[i]'(by rw [Array.length_toList]; exact h)] := by
  rw [ByteArray.data_extract, Array.toList_extract]
  rw [List.extract_eq_take_drop]
  have hl : i < s.data.toList.length := by rw [Array.length_toList]; exact h
  rw [List.drop_eq_getElem_cons hl]
  simp
theorem one_letter {s : ByteArray} (h : s.size = 1) : ∃ x, s.data.toList = [x] := by
  have hl : s.data.toList.length = 1 := by rw [Array.length_toList]; exact h
  match hs : s.data.toList, hl with
  | [x], _ => exact ⟨x, rfl⟩
theorem Letter_is (n s : ByteArray) (hn : n.size ≤ 1000000) (h : s.size = 1) : ref08_Letter n s = some (Lib.contains n.data.toList s.data.toList) := by
  obtain ⟨x, hx⟩ := one_letter h
  unfold ref08_Letter
  have hln : n.data.toList.length = n.size := Array.length_toList
  have key := scan0 (b := ref08_Letter_b2) n.data.toList (fun y => y == x) (fun i => (n, s, (i : Int))) (fun k => .inl true) (.inr ()) (fun i hi => by
    have hw := wrap1 i _ hi (by omega)
    rw [ref08_Letter_b2, hw, Int.toNat_natCast, Int.toNat_natCast, it1 (by omega)]
    rw [show (decide ((0 : Int) ≤ (i : Int)) && decide ((i : Int) ≤ ((i + 1 : Nat) : Int)) && decide (((i + 1 : Nat) : Int) ≤ (n.size : Int))) = true by
      rw [Bool.and_eq_true, Bool.and_eq_true, decide_eq_true_eq, decide_eq_true_eq, decide_eq_true_eq]; omega]
    rw [ByteArray.toList_eq, ByteArray.toList_eq, extract_one n i (by omega), hx]
    have hb : List.beq [n.data.toList[i]] [x] = (n.data.toList[i] == x) := by
      show ((n.data.toList[i] == x) && true) = _
      rw [Bool.and_true]
    rw [hb]
    rfl) (by rw [ref08_Letter_b2, it0 (by omega)])
  have key' : runLoop ref08_Letter_b2 (n, s, (0 : Int)) = _ := key
  rw [key', hx, contains_one, ← findIdx_any]
  cases List.findIdx? (fun y => y == x) n.data.toList <;> rfl
end Go.Pc
