/- Part 40 of the proof of the statement that the last part names; it asks for no condition of its own. Here: PcTS. -/
import Derived.Test.YtgkfbembnlgahaaGreatDoorQbk
import Derived.Test.YtgkfbembnlgahaaGreatDoorQbm
import Derived.Test.YtgkfbembnlgahaaGreatDoorQax
set_option linter.unusedVariables false
set_option linter.unusedSimpArgs false
set_option maxRecDepth 100000
set_option maxHeartbeats 0
namespace Go.Pc
open Go Go.Sx Go.Tx
theorem Merged2_is {l : List Sp} (hM : MF l) (hk : ∀ s ∈ l, okS s) (h : l.length ≤ 1000000) : ref08_Merged_i2 l = some (true, l) := Merged_is hM hk h
theorem tsloop (p : Int) (l : List (List Sp × Bool)) (n : List ByteArray) (h6 : l.length = 6) (hG : ∀ x ∈ l, Good p x) : runLoop law08_TablesSpans_b14 (p, (0 : Int), l, n) = some (.inr n) := by
  refine runLoop_to (fun i : Nat => i ≤ l.length) (fun i : Nat => (p, (i : Int), l, n)) (fun i => l.length - i) _ ?_ 0 (Nat.zero_le _)
  intro i hi
  by_cases hlt : i < l.length
  · left
    refine ⟨i + 1, ?_, hlt, by omega⟩
    have hx := hG l[i] (List.getElem_mem hlt)
    have hlen := hx.len
    rw [law08_TablesSpans_b14, Int.toNat_natCast, getD_in l i _ hlt, wrap1 i _ hlt (by omega), it1 (by omega), it2 (by omega) (by omega), it1 (by omega), In_is p _ (by omega)]
    simp only [Option.bind_some]
    rw [Merged2_is hx.mf hx.ok (by omega), hx.is]
    simp
  · right
    rw [law08_TablesSpans_b14, it0 (by omega)]
theorem good6 {p : Int} {a b c d e f : List Sp × Bool} (ha : Good p a) (hb : Good p b) (hc : Good p c) (hd : Good p d) (he : Good p e) (hf : Good p f) : ∀ x ∈ [a, b, c, d, e, f], Good p x := fun x hx => by
  simp only [List.mem_cons, List.not_mem_nil, or_false] at hx
  rcases hx with rfl | rfl | rfl | rfl | rfl | rfl <;> assumption

theorem TablesSpans_is (p : Int) (a : Bool) (n : List ByteArray) (hp : 0 ≤ p ∧ p ≤ Top) : law08_TablesSpans p a n = some (true, n) := by
  have hpT := hp.2
  unfold law08_TablesSpans
  rw [awake_is]
  simp only [Option.bind_some, Bool.not_true, Bool.false_eq_true, if_false]
  by_cases h20 : n.length ≤ 20
  case neg => rw [it1 (by omega)]
  rw [it0 (by omega), rnew_is]
  simp only [Option.bind_some]
  rw [new_is]
  simp only [Option.bind_some]
  rw [rRange_is theR theC decL theL theW theS theR_len p]
  simp only [Option.bind_some]
  have hem : (ByteArray.mk (List.toArray [])).size ≤ 100 := by decide
  cases hf : theR.find? (hasR p) with
  | some r =>
    simp only
    have hr := theR_inv.ok r (List.mem_of_find?_eq_some hf)
    by_cases hl : 0 < n.length
    · rw [it1 (by omega), it1 (by omega), it1 (by omega)]
      by_cases h100 : (n.getD 0 ByteArray.empty).size ≤ 100
      case neg => rw [it1 (by omega)]
      rw [it0 (by omega)]
      generalize n.getD 0 ByteArray.empty = one at h100 ⊢
      rw [rline_is theR theC decL theL theW theS (by rw [decL_len]; omega) p true]
      simp only [Option.bind_some]
      rw [Assigned_is theR theC decL theL theW theS theR_inv theR_len a]
      simp only [Option.bind_some]
      cases a with
      | true =>
        simp only [Bool.false_eq_true, if_false, if_true]
        rw [Cats_is theR theC decL theL theW theS theR_inv theR_len n (by omega)]
        simp only [Option.bind_some]
        rw [One_is r.2.2.1 n (by omega)]
        simp only [Option.bind_some]
        rw [Sides_is theR theC decL theL theW theS theR_inv theR_len n (by omega)]
        simp only [Option.bind_some]
        rw [One_is r.2.2.2.1 n (by omega)]
        simp only [Option.bind_some]
        rw [Joins_is theR theC decL theL theW theS theR_inv theR_len one (by omega)]
        simp only [Option.bind_some]
        rw [Letter_is one r.2.2.2.2.1 (by omega) hr.2.2.2]
        simp only [Option.bind_some]
        rw [Set_is theR theC decL theL theW theS theS_inv theS_len one]
        simp only [Option.bind_some]
        rw [rSet_is theR theC decL theL theW theS theS_len one p]
        simp only [Option.bind_some]
        rw [Alike_is theR theC decL theL theW theS decL_inv (by rw [decL_len]; omega)]
        simp only [Option.bind_some]
        cases hd : decL.findIdx? (hit p true) with
        | none =>
          have e : idxI decL (hit p true) = -1 := by unfold idxI; rw [hd]
          rw [e, it0 (by omega), tsloop p _ n rfl (good6 (good_R hpT _ (by rw [hf] <;> rfl)) (good_R hpT _ (by rw [hf] <;> rfl)) (good_R hpT _ (by rw [hf] <;> rfl)) (good_R hpT _ (by rw [hf] <;> rfl)) (good_S hpT one) (good_D hpT (by rw [hd] <;> rfl)))]
          rfl
        | some k =>
          have e : idxI decL (hit p true) = (k : Int) := by unfold idxI; rw [hd]
          have hk : k < decL.length := (List.findIdx?_eq_some_iff_getElem.1 hd).1
          rw [e, it1 (by omega), it2 (by omega) (by omega), it1 (by omega), Int.toNat_natCast, tsloop p _ n rfl (good6 (good_R hpT _ (by rw [hf] <;> rfl)) (good_R hpT _ (by rw [hf] <;> rfl)) (good_R hpT _ (by rw [hf] <;> rfl)) (good_R hpT _ (by rw [hf] <;> rfl)) (good_S hpT one) (good_D hpT (by rw [hd] <;> rfl)))]
          rfl
      | false =>
        simp only [Bool.false_eq_true, if_false, if_true]
        rw [Cats_is theR theC decL theL theW theS theR_inv theR_len n (by omega)]
        simp only [Option.bind_some]
        rw [One_is r.2.2.1 n (by omega)]
        simp only [Option.bind_some]
        rw [Sides_is theR theC decL theL theW theS theR_inv theR_len n (by omega)]
        simp only [Option.bind_some]
        rw [One_is r.2.2.2.1 n (by omega)]
        simp only [Option.bind_some]
        rw [Joins_is theR theC decL theL theW theS theR_inv theR_len one (by omega)]
        simp only [Option.bind_some]
        rw [Letter_is one r.2.2.2.2.1 (by omega) hr.2.2.2]
        simp only [Option.bind_some]
        rw [Set_is theR theC decL theL theW theS theS_inv theS_len one]
        simp only [Option.bind_some]
        rw [rSet_is theR theC decL theL theW theS theS_len one p]
        simp only [Option.bind_some]
        rw [Alike_is theR theC decL theL theW theS decL_inv (by rw [decL_len]; omega)]
        simp only [Option.bind_some]
        cases hd : decL.findIdx? (hit p true) with
        | none =>
          have e : idxI decL (hit p true) = -1 := by unfold idxI; rw [hd]
          rw [e, it0 (by omega), tsloop p _ n rfl (good6 (good_R hpT _ (by rw [hf] <;> rfl)) (good_R hpT _ (by rw [hf] <;> rfl)) (good_R hpT _ (by rw [hf] <;> rfl)) (good_R hpT _ (by rw [hf] <;> rfl)) (good_S hpT one) (good_D hpT (by rw [hd] <;> rfl)))]
          rfl
        | some k =>
          have e : idxI decL (hit p true) = (k : Int) := by unfold idxI; rw [hd]
          have hk : k < decL.length := (List.findIdx?_eq_some_iff_getElem.1 hd).1
          rw [e, it1 (by omega), it2 (by omega) (by omega), it1 (by omega), Int.toNat_natCast, tsloop p _ n rfl (good6 (good_R hpT _ (by rw [hf] <;> rfl)) (good_R hpT _ (by rw [hf] <;> rfl)) (good_R hpT _ (by rw [hf] <;> rfl)) (good_R hpT _ (by rw [hf] <;> rfl)) (good_S hpT one) (good_D hpT (by rw [hd] <;> rfl)))]
          rfl
    · rw [it0 (by omega)]
      generalize (ByteArray.mk (List.toArray [])) = one at hem ⊢
      rw [rline_is theR theC decL theL theW theS (by rw [decL_len]; omega) p true]
      simp only [Option.bind_some]
      rw [Assigned_is theR theC decL theL theW theS theR_inv theR_len a]
      simp only [Option.bind_some]
      cases a with
      | true =>
        simp only [Bool.false_eq_true, if_false, if_true]
        rw [Cats_is theR theC decL theL theW theS theR_inv theR_len n (by omega)]
        simp only [Option.bind_some]
        rw [One_is r.2.2.1 n (by omega)]
        simp only [Option.bind_some]
        rw [Sides_is theR theC decL theL theW theS theR_inv theR_len n (by omega)]
        simp only [Option.bind_some]
        rw [One_is r.2.2.2.1 n (by omega)]
        simp only [Option.bind_some]
        rw [Joins_is theR theC decL theL theW theS theR_inv theR_len one (by omega)]
        simp only [Option.bind_some]
        rw [Letter_is one r.2.2.2.2.1 (by omega) hr.2.2.2]
        simp only [Option.bind_some]
        rw [Set_is theR theC decL theL theW theS theS_inv theS_len one]
        simp only [Option.bind_some]
        rw [rSet_is theR theC decL theL theW theS theS_len one p]
        simp only [Option.bind_some]
        rw [Alike_is theR theC decL theL theW theS decL_inv (by rw [decL_len]; omega)]
        simp only [Option.bind_some]
        cases hd : decL.findIdx? (hit p true) with
        | none =>
          have e : idxI decL (hit p true) = -1 := by unfold idxI; rw [hd]
          rw [e, it0 (by omega), tsloop p _ n rfl (good6 (good_R hpT _ (by rw [hf] <;> rfl)) (good_R hpT _ (by rw [hf] <;> rfl)) (good_R hpT _ (by rw [hf] <;> rfl)) (good_R hpT _ (by rw [hf] <;> rfl)) (good_S hpT one) (good_D hpT (by rw [hd] <;> rfl)))]
          rfl
        | some k =>
          have e : idxI decL (hit p true) = (k : Int) := by unfold idxI; rw [hd]
          have hk : k < decL.length := (List.findIdx?_eq_some_iff_getElem.1 hd).1
          rw [e, it1 (by omega), it2 (by omega) (by omega), it1 (by omega), Int.toNat_natCast, tsloop p _ n rfl (good6 (good_R hpT _ (by rw [hf] <;> rfl)) (good_R hpT _ (by rw [hf] <;> rfl)) (good_R hpT _ (by rw [hf] <;> rfl)) (good_R hpT _ (by rw [hf] <;> rfl)) (good_S hpT one) (good_D hpT (by rw [hd] <;> rfl)))]
          rfl
      | false =>
        simp only [Bool.false_eq_true, if_false, if_true]
        rw [Cats_is theR theC decL theL theW theS theR_inv theR_len n (by omega)]
        simp only [Option.bind_some]
        rw [One_is r.2.2.1 n (by omega)]
        simp only [Option.bind_some]
        rw [Sides_is theR theC decL theL theW theS theR_inv theR_len n (by omega)]
        simp only [Option.bind_some]
        rw [One_is r.2.2.2.1 n (by omega)]
        simp only [Option.bind_some]
        rw [Joins_is theR theC decL theL theW theS theR_inv theR_len one (by omega)]
        simp only [Option.bind_some]
        rw [Letter_is one r.2.2.2.2.1 (by omega) hr.2.2.2]
        simp only [Option.bind_some]
        rw [Set_is theR theC decL theL theW theS theS_inv theS_len one]
        simp only [Option.bind_some]
        rw [rSet_is theR theC decL theL theW theS theS_len one p]
        simp only [Option.bind_some]
        rw [Alike_is theR theC decL theL theW theS decL_inv (by rw [decL_len]; omega)]
        simp only [Option.bind_some]
        cases hd : decL.findIdx? (hit p true) with
        | none =>
          have e : idxI decL (hit p true) = -1 := by unfold idxI; rw [hd]
          rw [e, it0 (by omega), tsloop p _ n rfl (good6 (good_R hpT _ (by rw [hf] <;> rfl)) (good_R hpT _ (by rw [hf] <;> rfl)) (good_R hpT _ (by rw [hf] <;> rfl)) (good_R hpT _ (by rw [hf] <;> rfl)) (good_S hpT one) (good_D hpT (by rw [hd] <;> rfl)))]
          rfl
        | some k =>
          have e : idxI decL (hit p true) = (k : Int) := by unfold idxI; rw [hd]
          have hk : k < decL.length := (List.findIdx?_eq_some_iff_getElem.1 hd).1
          rw [e, it1 (by omega), it2 (by omega) (by omega), it1 (by omega), Int.toNat_natCast, tsloop p _ n rfl (good6 (good_R hpT _ (by rw [hf] <;> rfl)) (good_R hpT _ (by rw [hf] <;> rfl)) (good_R hpT _ (by rw [hf] <;> rfl)) (good_R hpT _ (by rw [hf] <;> rfl)) (good_S hpT one) (good_D hpT (by rw [hd] <;> rfl)))]
          rfl
  | none =>
    simp only
    by_cases hl : 0 < n.length
    · rw [it1 (by omega), it1 (by omega), it1 (by omega)]
      by_cases h100 : (n.getD 0 ByteArray.empty).size ≤ 100
      case neg => rw [it1 (by omega)]
      rw [it0 (by omega)]
      generalize n.getD 0 ByteArray.empty = one at h100 ⊢
      rw [rline_is theR theC decL theL theW theS (by rw [decL_len]; omega) p true]
      simp only [Option.bind_some]
      rw [Assigned_is theR theC decL theL theW theS theR_inv theR_len a]
      simp only [Option.bind_some]
      rw [Cats_is theR theC decL theL theW theS theR_inv theR_len n (by omega)]
      simp only [Option.bind_some]
      rw [Sides_is theR theC decL theL theW theS theR_inv theR_len n (by omega)]
      simp only [Option.bind_some]
      rw [Joins_is theR theC decL theL theW theS theR_inv theR_len one (by omega)]
      simp only [Option.bind_some]
      rw [Set_is theR theC decL theL theW theS theS_inv theS_len one]
      simp only [Option.bind_some]
      rw [rSet_is theR theC decL theL theW theS theS_len one p]
      simp only [Option.bind_some]
      rw [Alike_is theR theC decL theL theW theS decL_inv (by rw [decL_len]; omega)]
      simp only [Option.bind_some]
      cases hd : decL.findIdx? (hit p true) with
      | none =>
        have e : idxI decL (hit p true) = -1 := by unfold idxI; rw [hd]
        rw [e, it0 (by omega), tsloop p _ n rfl (good6 (good_R hpT _ (by rw [hf] <;> rfl)) (good_R hpT _ (by rw [hf] <;> rfl)) (good_R hpT _ (by rw [hf] <;> rfl)) (good_R hpT _ (by rw [hf] <;> rfl)) (good_S hpT one) (good_D hpT (by rw [hd] <;> rfl)))]
        rfl
      | some k =>
        have e : idxI decL (hit p true) = (k : Int) := by unfold idxI; rw [hd]
        have hk : k < decL.length := (List.findIdx?_eq_some_iff_getElem.1 hd).1
        rw [e, it1 (by omega), it2 (by omega) (by omega), it1 (by omega), Int.toNat_natCast, tsloop p _ n rfl (good6 (good_R hpT _ (by rw [hf] <;> rfl)) (good_R hpT _ (by rw [hf] <;> rfl)) (good_R hpT _ (by rw [hf] <;> rfl)) (good_R hpT _ (by rw [hf] <;> rfl)) (good_S hpT one) (good_D hpT (by rw [hd] <;> rfl)))]
        rfl
    · rw [it0 (by omega)]
      generalize (ByteArray.mk (List.toArray [])) = one at hem ⊢
      rw [rline_is theR theC decL theL theW theS (by rw [decL_len]; omega) p true]
      simp only [Option.bind_some]
      rw [Assigned_is theR theC decL theL theW theS theR_inv theR_len a]
      simp only [Option.bind_some]
      rw [Cats_is theR theC decL theL theW theS theR_inv theR_len n (by omega)]
      simp only [Option.bind_some]
      rw [Sides_is theR theC decL theL theW theS theR_inv theR_len n (by omega)]
      simp only [Option.bind_some]
      rw [Joins_is theR theC decL theL theW theS theR_inv theR_len one (by omega)]
      simp only [Option.bind_some]
      rw [Set_is theR theC decL theL theW theS theS_inv theS_len one]
      simp only [Option.bind_some]
      rw [rSet_is theR theC decL theL theW theS theS_len one p]
      simp only [Option.bind_some]
      rw [Alike_is theR theC decL theL theW theS decL_inv (by rw [decL_len]; omega)]
      simp only [Option.bind_some]
      cases hd : decL.findIdx? (hit p true) with
      | none =>
        have e : idxI decL (hit p true) = -1 := by unfold idxI; rw [hd]
        rw [e, it0 (by omega), tsloop p _ n rfl (good6 (good_R hpT _ (by rw [hf] <;> rfl)) (good_R hpT _ (by rw [hf] <;> rfl)) (good_R hpT _ (by rw [hf] <;> rfl)) (good_R hpT _ (by rw [hf] <;> rfl)) (good_S hpT one) (good_D hpT (by rw [hd] <;> rfl)))]
        rfl
      | some k =>
        have e : idxI decL (hit p true) = (k : Int) := by unfold idxI; rw [hd]
        have hk : k < decL.length := (List.findIdx?_eq_some_iff_getElem.1 hd).1
        rw [e, it1 (by omega), it2 (by omega) (by omega), it1 (by omega), Int.toNat_natCast, tsloop p _ n rfl (good6 (good_R hpT _ (by rw [hf] <;> rfl)) (good_R hpT _ (by rw [hf] <;> rfl)) (good_R hpT _ (by rw [hf] <;> rfl)) (good_R hpT _ (by rw [hf] <;> rfl)) (good_S hpT one) (good_D hpT (by rw [hd] <;> rfl)))]
        rfl
end Go.Pc
