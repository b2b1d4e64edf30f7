/- Part 29 of the proof of the statement that the last part names; it asks for no condition of its own. Here: PcMg. -/
import Derived.Test.YtgkfbembnlgahaaGreatDoorQap
import Derived.Test.YtgkfbembnlgahaaGreatDoorQaz
import Derived.Test.YtgkfbembnlgahaaGreatDoorQbb
set_option linter.unusedVariables false
set_option linter.unusedSimpArgs false
namespace Go.Pc
open Go Go.Sx Go.Tx
def mrg (l : List Sp) : List Sp := (mAll (sortS (l.filter fun x => !badS x))).reverse
theorem okF {l : List Sp} (h : ∀ s ∈ l, okS s) : ∀ s ∈ sortS (l.filter fun x => !badS x), okS s ∧ s.1 ≤ s.2 := fun s hs => by
  have h1 := (sortS_perm _).mem_iff.1 hs
  obtain ⟨h2, h3⟩ := List.mem_filter.1 h1
  refine ⟨h s h2, ?_⟩
  simp only [badS, Bool.not_eq_true', decide_eq_false_iff_not] at h3
  omega
theorem mrg_inv {l : List Sp} (h : ∀ s ∈ l, okS s) : MInv (sortS (l.filter fun x => !badS x)) (mAll (sortS (l.filter fun x => !badS x))) :=
  mAll_inv (okF h) (sortS_ord _)
theorem mAll_len (L : List Sp) : ∀ acc : List Sp, (L.foldl mStep acc).length ≤ acc.length + L.length := by
  induction L with
  | nil => intro acc; simp
  | cons s L ih =>
    intro acc
    rw [List.foldl_cons]
    refine Nat.le_trans (ih _) ?_
    have : (mStep acc s).length ≤ acc.length + 1 := by
      cases acc with
      | nil => simp [mStep]
      | cons x r => rw [mStep_cons]; split <;> simp
    simp only [List.length_cons]
    omega
theorem mStep_in {x s : Sp} {r : List Sp} (h : x.2 = Top ∨ s.1 ≤ x.2 + 1) : mStep (x :: r) s = (x.1, max x.2 s.2) :: r := if_pos h
theorem mStep_out {x s : Sp} {r : List Sp} (h : ¬ (x.2 = Top ∨ s.1 ≤ x.2 + 1)) : mStep (x :: r) s = s :: x :: r := if_neg h
theorem mloop (L l0 : List Sp) (hL : ∀ s ∈ L, okS s ∧ s.1 ≤ s.2) (hn : L.length ≤ 1000000) (hp : L.Pairwise fun a b => a.1 ≤ b.1) :
    runLoop tables_Merge_b5 ((L.length : Int), (0 : Int), L, l0, []) = some ((mAll L).reverse, l0) := by
  refine runLoop_to (fun i : Nat => i ≤ L.length) (fun i : Nat => ((L.length : Int), (i : Int), L, l0, ((L.take i).foldl mStep []).reverse)) (fun i => L.length - i) _ ?_ 0 (Nat.zero_le _)
  intro i hi
  by_cases hlt : i < L.length
  · left
    refine ⟨i + 1, ?_, hlt, by omega⟩
    have hs := hL L[i] (List.getElem_mem hlt)
    have hinv : MInv (L.take i) ((L.take i).foldl mStep []) := mAll_inv (fun s hs => hL s (List.mem_of_mem_take hs)) (hp.sublist (List.take_sublist _ _))
    have hlen := hinv.len
    have htl : (L.take i).length ≤ i := by rw [List.length_take]; omega
    rw [take_succ' L i hlt, List.foldl_append]
    simp only [List.foldl_cons, List.foldl_nil]
    generalize (L.take i).foldl mStep [] = acc at hinv hlen ⊢
    have hwi : IntKind.i64.wrap ((i : Int) + 1) = ((i + 1 : Nat) : Int) := by rw [wrap_i64] <;> omega
    have hg := getD_in L i ((0 : Int), (0 : Int)) hlt
    cases acc with
    | nil =>
      have hw : IntKind.i64.wrap (((([] : List Sp).reverse.length : Nat) : Int) - 1) = -1 := by decide
      rw [tables_Merge_b5, hw, Int.toNat_natCast, hg, hwi]
      rw [it1 (by omega), it2 (by omega) (by omega), it1 (by omega), it0 (by omega), it1 (by simp)]
      rfl
    | cons x r =>
      have hx := hinv.top x List.mem_cons_self
      have hlr : r.length + 1 ≤ i := by simp only [List.length_cons] at hlen; omega
      have hrl : ((x :: r).reverse).length = r.length + 1 := by simp
      have hw : IntKind.i64.wrap ((((x :: r).reverse.length : Nat) : Int) - 1) = (r.length : Int) := by rw [hrl, wrap_i64] <;> omega
      have hgx : (x :: r).reverse.getD r.length ((0 : Int), (0 : Int)) = x := by
        rw [List.reverse_cons]
        have := getD_last r.reverse x ((0 : Int), (0 : Int))
        rwa [List.length_reverse] at this
      have hst : ∀ y, (x :: r).reverse.set r.length y = (y :: r).reverse := fun y => by
        rw [List.reverse_cons, List.reverse_cons]
        have := set_last r.reverse x y
        rwa [List.length_reverse] at this
      have hmax : (if L[i].2 > x.2 then L[i].2 else x.2) = max x.2 L[i].2 := by split <;> omega
      have hwu : x.2 ≠ 4294967295 → IntKind.u32.wrap (x.2 + 1) = x.2 + 1 := fun ht => by
        have := MR_head hinv.mr
        unfold Top at hx
        exact wrap_u32' _ (by omega) (by omega)
      rw [tables_Merge_b5, hw, Int.toNat_natCast, Int.toNat_natCast, hg, hwi, hgx, hst, hmax]
      rw [it1 (by omega), it2 (by omega) (by omega), it1 (by omega), it1 (by omega), it2 (by omega) (by rw [hrl]; omega), it1 (by rw [hrl]; omega)]
      by_cases ht : x.2 = 4294967295
      · rw [mStep_in (.inl ht), it1 ht, it2 (by omega) (by rw [hrl]; omega), it1 (by rw [hrl]; omega), it2 (by omega) (by rw [hrl]; omega), it1 (by rw [hrl]; omega)]
      · rw [it0 ht, hwu ht, it2 (by omega) (by rw [hrl]; omega), it1 (by rw [hrl]; omega)]
        by_cases hc : L[i].1 ≤ x.2 + 1
        · rw [mStep_in (.inr hc), it1 hc, it2 (by omega) (by rw [hrl]; omega), it1 (by rw [hrl]; omega), it2 (by omega) (by rw [hrl]; omega), it1 (by rw [hrl]; omega)]
        · rw [mStep_out (by unfold Top; omega), it0 hc, it1 (by rw [hrl]; simp only [List.length_cons, List.length_nil]; omega)]
          rw [List.reverse_cons (a := L[i])]
  · right
    have hie : i = L.length := by omega
    subst hie
    rw [tables_Merge_b5, it0 (by omega), List.take_length]
    rfl

theorem mrg_in {l : List Sp} (h : ∀ s ∈ l, okS s) (p : Int) (hp : p ≤ Top) : InL (mrg l) p ↔ InL l p := by
  unfold mrg
  rw [InL_rev, (mrg_inv h).same p hp, InL_perm (sortS_perm _)]
  constructor
  · rintro ⟨s, hs, h1⟩; exact ⟨s, (List.mem_filter.1 hs).1, h1⟩
  · rintro ⟨s, hs, h1⟩
    refine ⟨s, List.mem_filter.2 ⟨hs, ?_⟩, h1⟩
    simp only [badS, Bool.not_eq_true', decide_eq_false_iff_not]
    omega
theorem mrg_MF {l : List Sp} (h : ∀ s ∈ l, okS s) : MF (mrg l) := by
  unfold MF mrg
  rw [List.reverse_reverse]
  exact (mrg_inv h).mr
theorem mrg_len (l : List Sp) : (mrg l).length ≤ l.length := by
  unfold mrg
  rw [List.length_reverse]
  have h1 := mAll_len (sortS (l.filter fun x => !badS x)) []
  have h2 := (sortS_perm (l.filter fun x => !badS x)).length_eq
  have h3 := List.length_filter_le (fun x => !badS x) l
  unfold mAll
  simp only [List.length_nil] at h1
  omega
theorem mrg_ok {l : List Sp} (h : ∀ s ∈ l, okS s) : ∀ s ∈ mrg l, okS s ∧ s.1 ≤ s.2 := fun s hs => by
  have h1 := MF_ok (mrg_MF h) s hs
  have h2 := (mrg_inv h).top s (by unfold mrg at hs; exact List.mem_reverse.1 hs)
  unfold okS
  omega
theorem Merge_is {l : List Sp} (h : ∀ s ∈ l, okS s) (hn : l.length ≤ 1000000) : tables_Merge l = some (mrg l, l) := by
  have h2 := (sortS_perm (l.filter fun x => !badS x)).length_eq
  have h3 := List.length_filter_le (fun x => !badS x) l
  unfold tables_Merge slices_CloneR slices_Clone_sp slices_DeleteFunc slices_SortFunc
  rw [it1 (by omega)]
  simp only [Option.bind_some]
  rw [it1 (by omega)]
  simp only [Option.bind_some]
  rw [it1 (by omega)]
  simp only [Option.bind_some]
  rw [mloop _ l (okF h) (by omega) (sortS_ord _)]
  rfl
theorem Merge2_is {l : List Sp} (h : ∀ s ∈ l, okS s) (hn : l.length ≤ 1000000) : tables_Merge_i2 l = some (mrg l, l) := Merge_is h hn

def inB (l : List Sp) (x : Int) : Bool := l.any fun s => decide (s.1 ≤ x) && decide (x ≤ s.2)
theorem inB_iff (l : List Sp) (x : Int) : inB l x = true ↔ InL l x := by
  unfold inB InL
  simp [List.any_eq_true]
theorem has_eq (a b x : Int) : ref06_Has a b x = some (decide (a ≤ x) && decide (x ≤ b)) := by
  unfold ref06_Has
  by_cases h : a ≤ x
  · rw [it1 h]; simp [h]
  · rw [it0 h]; simp [h]
theorem In_is (x : Int) (l : List Sp) (h : l.length ≤ 1000000000) : ref06_In x l = some (inB l x, l) := by
  unfold ref06_In
  obtain ⟨r, hr, hQ⟩ := runLoop_inv (b := ref06_In_b2) (fun v => ∃ k : Nat, v = (x, (k : Int), l) ∧ k ≤ l.length ∧ inB (l.take k) x = false) (fun v => ((l.length : Int) - v.2.1).toNat)
    (fun r => (r = .inl (true, l) ∧ inB l x = true) ∨ (r = .inr l ∧ inB l x = false)) (by
      rintro v ⟨k, rfl, hk, hno⟩
      by_cases hlt : k < l.length
      · have hwi : IntKind.i64.wrap ((k : Int) + 1) = ((k + 1 : Nat) : Int) := by rw [wrap_i64] <;> omega
        have hg := getD_in l k ((0 : Int), (0 : Int)) hlt
        cases hc : (decide (l[k].1 ≤ x) && decide (x ≤ l[k].2)) with
        | true =>
          right
          refine ⟨.inl (true, l), ?_, .inl ⟨rfl, ?_⟩⟩
          · rw [ref06_In_b2, Int.toNat_natCast, hg, it1 (by omega), it2 (by omega) (by omega), it1 (by omega), has_eq, hc]
            rfl
          · unfold inB
            exact List.any_eq_true.2 ⟨l[k], List.getElem_mem hlt, hc⟩
        | false =>
          left
          refine ⟨(x, ((k + 1 : Nat) : Int), l), ?_, ⟨k + 1, rfl, hlt, ?_⟩, by simp only; omega⟩
          · rw [ref06_In_b2, Int.toNat_natCast, hg, it1 (by omega), it2 (by omega) (by omega), it1 (by omega), has_eq, hc, hwi]
            rfl
          · rw [take_succ' l k hlt]
            unfold inB at hno ⊢
            rw [List.any_append, hno]
            simp only [List.any_cons, List.any_nil, hc, Bool.or_false]
      · right
        refine ⟨.inr l, by rw [ref06_In_b2, it0 (by omega)], .inr ⟨rfl, ?_⟩⟩
        rwa [List.take_of_length_le (by omega)] at hno)
    (x, ((0 : Nat) : Int), l) ⟨0, rfl, Nat.zero_le _, rfl⟩
  have hr' : runLoop ref06_In_b2 (x, (0 : Int), l) = some r := hr
  rw [hr']
  rcases hQ with ⟨rfl, h2⟩ | ⟨rfl, h2⟩ <;> rw [h2] <;> rfl
theorem Merged_is {l : List Sp} (hM : MF l) (hk : ∀ s ∈ l, okS s) (h : l.length ≤ 1000000) : ref08_Merged l = some (true, l) := by
  unfold ref08_Merged
  have key : runLoop ref08_Merged_b2 ((0 : Int), l) = some (.inr l) := by
    refine runLoop_to (fun i : Nat => i ≤ l.length) (fun i : Nat => ((i : Int), l)) (fun i => l.length - i) _ ?_ 0 (Nat.zero_le _)
    intro i hi
    by_cases hlt : i < l.length
    · left
      refine ⟨i + 1, ?_, hlt, by omega⟩
      have hwi : IntKind.i64.wrap ((i : Int) + 1) = ((i + 1 : Nat) : Int) := by rw [wrap_i64] <;> omega
      have hg := getD_in l i ((0 : Int), (0 : Int)) hlt
      have hv := MF_ok hM l[i] (List.getElem_mem hlt)
      rw [ref08_Merged_b2, Int.toNat_natCast, hg, hwi, it1 (by omega), it2 (by omega) (by omega), it1 (by omega), it2 (by omega) (by omega), it1 (by omega), it0 (by omega)]
      rcases Nat.eq_zero_or_pos i with h0 | h0
      · subst h0
        rw [it0 (by omega)]
      · obtain ⟨j, rfl⟩ : ∃ j, i = j + 1 := ⟨i - 1, by omega⟩
        have hwj : IntKind.i64.wrap (((j + 1 : Nat) : Int) - 1) = (j : Int) := by rw [wrap_i64] <;> omega
        have hgj := getD_in l j ((0 : Int), (0 : Int)) (by omega)
        have hgap := MF_at hM (i := j) (x := l[j]'(by omega)) (y := l[j + 1]) (List.getElem?_eq_getElem (by omega)) (List.getElem?_eq_getElem hlt)
        have hk1 := hk l[j + 1] (List.getElem_mem hlt)
        have hk0 := hk (l[j]'(by omega)) (List.getElem_mem (by omega))
        unfold okS Top at hk1 hk0
        have hwu : IntKind.u32.wrap (l[j + 1].1 - (l[j]'(by omega)).2) = l[j + 1].1 - (l[j]'(by omega)).2 := wrap_u32' _ (by omega) (by omega)
        rw [hwj, Int.toNat_natCast, hgj, hwu, it1 (by omega), it2 (by omega) (by omega), it1 (by omega), it2 (by omega) (by omega), it1 (by omega), it0 (by omega), it2 (by omega) (by omega), it1 (by omega), it2 (by omega) (by omega), it1 (by omega), it0 (by omega)]
    · right
      rw [ref08_Merged_b2, it0 (by omega)]
  rw [key]
  rfl
end Go.Pc
