/- Part 14 of the proof of the statement that the last part names; it asks for no condition of its own. Here: PcTF. -/
import Derived.Test.YtgkfbembnlgahaaGreatDoorQaj
import Derived.Test.YtgkfbembnlgahaaGreatDoorQam
/- The law TablesFull: true, whatever comes in: pure. -/
set_option linter.unusedVariables false
set_option linter.unusedSimpArgs false
set_option maxRecDepth 100000
namespace Go.Pc
open Go Go.Sx Go.Tx

theorem resB_lst {T : Type} (r : List T ⊕ Nat) : ∃ a, resB r = (a, lstR r) := by cases r <;> exact ⟨_, rfl⟩
theorem rnew_is : ref08_New = some (theR, theC, decL, theL, theW, theS) := by
  unfold ref08_New
  have h0 := rRanges_is txR (by rw [szR]; omega)
  have h1 := rClasses_is txC (by rw [szC]; omega)
  have h2 := rDecomps_is decT (by rw [szD]; omega)
  have h3 := rRuns_is txL (by rw [szL]; omega)
  have h4 := rRuns_is txW (by rw [szW]; omega)
  have h5 := rSets_is txS (by rw [szS]; omega)
  rw [decR_is] at h2
  obtain ⟨a0, e0⟩ := resB_lst (readR oneRange (linesOf txR) [] 0)
  obtain ⟨a1, e1⟩ := resB_lst (readR oneW (linesOf txC) [] 0)
  obtain ⟨a3, e3⟩ := resB_lst (readR oneRun (linesOf txL) [] 0)
  obtain ⟨a4, e4⟩ := resB_lst (readR oneRun (linesOf txW) [] 0)
  obtain ⟨a5, e5⟩ := resB_lst (readR oneNamed (linesOf txS) [] 0)
  rw [e0] at h0
  rw [e1] at h1
  rw [e3] at h3
  rw [e4] at h4
  rw [e5] at h5
  unfold txR at h0
  unfold txC at h1
  unfold decT at h2
  unfold txL at h3
  unfold txW at h4
  unfold txS at h5
  rw [h0, h1, h2, h3, h4, h5]
  rfl

/-! where a key stands -/
def keyQ (q : Int) : Dc → Bool := fun d => d.1 == q
theorem idx_step (V : List Dc) (hR : Rise V) (q : Int) (i : Nat) (hi : i < V.length) : idxI (V.take (i + 1)) (keyQ q) = if V[i].1 = q then (i : Int) else idxI (V.take i) (keyQ q) := by
  have ht : V.take (i + 1) = V.take i ++ [V[i]] := by rw [List.take_add_one, List.getElem?_eq_getElem hi]; rfl
  have hl : (V.take i).length = i := by rw [List.length_take]; omega
  unfold idxI
  rw [ht, List.findIdx?_append]
  by_cases h : V[i].1 = q
  · rw [if_pos h]
    have hn : (V.take i).findIdx? (keyQ q) = none := by
      rcases find_idx (keyQ q) (V.take i) with ⟨h1, _⟩ | ⟨j, h1, _, _, h4⟩
      · exact h1
      · exfalso
        rw [hl] at h1
        have hj : (V.take i).getD j zD = V.getD j zD := by
          rw [List.getD_eq_getElem?_getD, List.getElem?_take, if_pos h1, List.getD_eq_getElem?_getD]
        rw [hj] at h4
        have hlt := rise_lt hR h1 hi
        have hg : V.getD i zD = V[i] := by rw [List.getD_eq_getElem?_getD, List.getElem?_eq_getElem hi]; rfl
        rw [hg] at hlt
        unfold keyQ at h4
        have := beq_iff_eq.1 h4
        omega
    have h1 : List.findIdx? (keyQ q) [V[i]] = some 0 := by
      rw [List.findIdx?_cons, if_pos (by unfold keyQ; exact beq_iff_eq.2 h)]
    rw [hn, h1, hl]
    simp
  · rw [if_neg h]
    have h1 : List.findIdx? (keyQ q) [V[i]] = none := by
      rw [List.findIdx?_cons, if_neg (by unfold keyQ; exact fun e => h (beq_iff_eq.1 e))]
      rfl
    rw [h1]
    simp

section
variable (l1 : List (Int × Int × ByteArray × ByteArray × ByteArray × Bool)) (l2 : List (Int × Int × Int)) (D : List Dc) (l4 l5 : List (Int × Int × Int)) (l6 : List (ByteArray × Int × Int))
/-- The look for a key, over all keys. -/
theorem look_is (c : Bool) (q t51 : Int) (two : List Int) (V : List Dc) (hR : Rise V) (hl : V.length ≤ 1000000) (R : List (List Int)) :
    runLoop law08_TablesFull_b13 (c, q, (-1 : Int), t51, (((V.map (fun d => d.1)).length : Nat) : Int), (0 : Int), two, V.map (fun d => d.1), l1, l2, D, l4, l5, l6, R) =
      some (.inr (c, q, idxI V (keyQ q), t51, two, l1, l2, D, l4, l5, l6, V.map (fun d => d.1), R)) := by
  have hK : (V.map (fun d => d.1)).length = V.length := List.length_map _
  rw [hK]
  have hk : ∀ i (hi : i < V.length), (V.map (fun d => d.1)).getD i (0 : Int) = V[i].1 := fun i hi => by
    rw [List.getD_eq_getElem?_getD, List.getElem?_map, List.getElem?_eq_getElem hi]; rfl
  refine runLoop_to (fun i : Nat => i ≤ V.length) (fun i : Nat => (c, q, idxI (V.take i) (keyQ q), t51, (V.length : Int), (i : Int), two, V.map (fun d => d.1), l1, l2, D, l4, l5, l6, R)) (fun i => V.length - i) _ ?_ 0 (Nat.zero_le _)
  intro i hi
  by_cases hlt : i < V.length
  · left
    refine ⟨i + 1, ?_, hlt, by omega⟩
    have d0 : decide ((i : Int) < (V.length : Int)) = true := decide_eq_true (by omega)
    have d1 : decide ((0 : Int) ≤ (i : Int)) = true := decide_eq_true (by omega)
    have d2 : decide (i < V.length) = true := decide_eq_true hlt
    have hw : IntKind.i64.wrap ((i : Int) + 1) = ((i + 1 : Nat) : Int) := by rw [wrap_i64] <;> omega
    rw [idx_step V hR q i hlt]
    by_cases h0 : 0 < i
    · have c1 : decide ((i : Int) > 0) = true := decide_eq_true (by omega)
      have hwp : IntKind.i64.wrap ((i : Int) - 1) = ((i - 1 : Nat) : Int) := by rw [wrap_i64] <;> omega
      have c2 : decide ((0 : Int) ≤ ((i - 1 : Nat) : Int)) = true := decide_eq_true (by omega)
      have c3 : decide (((i - 1 : Nat) : Int) < (V.length : Int)) = true := decide_eq_true (by omega)
      have c4 : decide (i - 1 < V.length) = true := decide_eq_true (by omega)
      have hlt2 := rise_lt hR (show i - 1 < i by omega) hlt
      have hg1 : V.getD i zD = V[i] := by rw [List.getD_eq_getElem?_getD, List.getElem?_eq_getElem hlt]; rfl
      have hg2 : V.getD (i - 1) zD = V[i - 1] := by rw [List.getD_eq_getElem?_getD, List.getElem?_eq_getElem (by omega)]; rfl
      rw [hg1, hg2] at hlt2
      have c5 : decide (V[i - 1].1 ≥ V[i].1) = false := decide_eq_false (by omega)
      by_cases he : V[i].1 = q
      · have e1 : decide (V[i].1 = q) = true := decide_eq_true he
        rw [if_pos he]
        simp only [law08_TablesFull_b13, hK, d0, d1, d2, Bool.and_self, if_true, Int.toNat_natCast, hk i hlt, hk (i - 1) (by omega), e1, c1, hwp, c2, c3, c4, c5, Bool.false_eq_true, if_false, hw]
      · have e1 : decide (V[i].1 = q) = false := decide_eq_false he
        rw [if_neg he]
        simp only [law08_TablesFull_b13, hK, d0, d1, d2, Bool.and_self, if_true, Int.toNat_natCast, hk i hlt, hk (i - 1) (by omega), e1, c1, hwp, c2, c3, c4, c5, Bool.false_eq_true, if_false, hw]
    · have c1 : decide ((i : Int) > 0) = false := decide_eq_false (by omega)
      by_cases he : V[i].1 = q
      · have e1 : decide (V[i].1 = q) = true := decide_eq_true he
        rw [if_pos he]
        simp only [law08_TablesFull_b13, hK, d0, d1, d2, Bool.and_self, if_true, Int.toNat_natCast, hk i hlt, e1, c1, Bool.false_eq_true, if_false, hw]
      · have e1 : decide (V[i].1 = q) = false := decide_eq_false he
        rw [if_neg he]
        simp only [law08_TablesFull_b13, hK, d0, d1, d2, Bool.and_self, if_true, Int.toNat_natCast, hk i hlt, e1, c1, Bool.false_eq_true, if_false, hw]
  · right
    have : i = V.length := by omega
    subst this
    have d0 : decide ((V.length : Int) < (V.length : Int)) = false := decide_eq_false (by omega)
    simp only [law08_TablesFull_b13, d0, Bool.false_eq_true, if_false, List.take_length]

theorem pad_len (l : List Int) (h : l.length ≤ 3) : (pad l).length = 3 := by
  unfold pad
  rw [if_pos h, List.length_append, List.length_take, List.length_drop, List.length_replicate]
  omega
theorem pad_get (l : List Int) (h : l.length ≤ 3) (i : Nat) (hi : i < 3) : (pad l).getD i 0 = if i < l.length then l.getD i 0 else 0 := by
  unfold pad
  rw [if_pos h, List.take_length, List.getD_eq_getElem?_getD]
  by_cases hl : i < l.length
  · rw [if_pos hl, List.getElem?_append_left hl, List.getD_eq_getElem?_getD]
  · rw [if_neg hl, List.getElem?_append_right (by omega), List.getElem?_drop, List.getElem?_replicate]
    rw [if_pos (by omega)]
    rfl

/-- A row is what the point becomes, and then nothing. -/
theorem row_is (c : Bool) (th t51 : Int) (two K : List Int) (R : List (List Int)) (l : List Int) (h : l.length ≤ 3) :
    runLoop law08_TablesFull_b25 (c, th, t51, (((pad l).length : Nat) : Int), (0 : Int), l, two, pad l, l1, l2, D, l4, l5, l6, K, R) =
      some (.inr (c, th, t51, l, two, l1, l2, D, l4, l5, l6, K, R)) := by
  have hp := pad_len l h
  have hg := pad_get l h
  rw [hp]
  refine runLoop_to (fun i : Nat => i ≤ 3) (fun i : Nat => (c, th, t51, ((3 : Nat) : Int), (i : Int), l, two, pad l, l1, l2, D, l4, l5, l6, K, R)) (fun i => 3 - i) _ ?_ 0 (Nat.zero_le _)
  intro i hi
  by_cases hlt : i < 3
  · left
    refine ⟨i + 1, ?_, hlt, by omega⟩
    have d0 : decide ((i : Int) < ((3 : Nat) : Int)) = true := decide_eq_true (by omega)
    have d1 : decide ((0 : Int) ≤ (i : Int)) = true := decide_eq_true (by omega)
    have d2 : decide (i < 3) = true := decide_eq_true hlt
    have hw : IntKind.i64.wrap ((i : Int) + 1) = ((i + 1 : Nat) : Int) := by rw [wrap_i64] <;> omega
    have hgi := hg i hlt
    by_cases hl : i < l.length
    · rw [if_pos hl] at hgi
      have c1 : decide ((i : Int) < (l.length : Int)) = true := decide_eq_true (by omega)
      have c2 : decide (i < l.length) = true := decide_eq_true hl
      have c3 : decide ((i : Int) ≥ (l.length : Int)) = false := decide_eq_false (by omega)
      have c4 : (l.getD i 0 != l.getD i 0) = false := bne_self_eq_false _
      simp only [law08_TablesFull_b25, hp, d0, d1, d2, Bool.and_self, if_true, Int.toNat_natCast, hgi, c1, c2, c3, c4, Bool.false_eq_true, if_false, hw]
    · rw [if_neg hl] at hgi
      have c1 : decide ((i : Int) < (l.length : Int)) = false := decide_eq_false (by omega)
      have c3 : decide ((i : Int) ≥ (l.length : Int)) = true := decide_eq_true (by omega)
      have c4 : ((0 : Int) != 0) = false := rfl
      simp only [law08_TablesFull_b25, hp, d0, d1, d2, Bool.and_self, if_true, Int.toNat_natCast, hgi, c1, c3, c4, Bool.false_eq_true, if_false, hw]
  · right
    have : i = 3 := by omega
    subst this
    have d0 : decide (((3 : Nat) : Int) < ((3 : Nat) : Int)) = false := rfl
    simp only [law08_TablesFull_b25, d0, Bool.false_eq_true, if_false]
end

theorem vis_find (c : Bool) (q : Int) : (decL.filter (vis c)).find? (keyQ q) = decL.find? (hit q c) := by
  rw [List.find?_filter]
  congr 1
  funext d
  rw [Bool.eq_iff_iff, decide_eq_true_eq]
  unfold hit
  rw [Bool.and_eq_true]
  exact And.comm

theorem round_is (c : Bool) (two : List Int) (h2 : two.length = 2) (i : Nat) (hi : i < 2) :
    law08_TablesFull_b9 (c, (i : Int), two, theR, theC, decL, theL, theW, theS, (decL.filter (vis c)).map (fun d => d.1), (decL.filter (vis c)).map (fun d => pad (fullOf decL c d.1))) =
      some (.inl (c, ((i + 1 : Nat) : Int), two, theR, theC, decL, theL, theW, theS, (decL.filter (vis c)).map (fun d => d.1), (decL.filter (vis c)).map (fun d => pad (fullOf decL c d.1)))) := by
  have d0 : decide ((i : Int) < 2) = true := decide_eq_true (by omega)
  have d1 : decide ((0 : Int) ≤ (i : Int)) = true := decide_eq_true (by omega)
  have d2 : decide ((i : Int) < (two.length : Int)) = true := decide_eq_true (by omega)
  have d3 : decide (i < two.length) = true := decide_eq_true (by omega)
  have hw : IntKind.i64.wrap ((i : Int) + 1) = ((i + 1 : Nat) : Int) := by rw [wrap_i64] <;> omega
  generalize hq : two.getD i (0 : Int) = q
  have hlen : (decL.filter (vis c)).length ≤ 1000000 := Nat.le_trans (List.length_filter_le _ _) (by rw [decL_len]; omega)
  have hlook := look_is theR theC decL theL theW theS c q (i : Int) two (decL.filter (vis c)) (rise_filter decL_rise _) hlen ((decL.filter (vis c)).map (fun d => pad (fullOf decL c d.1)))
  have hline := rline_is theR theC decL theL theW theS (by rw [decL_len]; omega) q c
  have hvf := vis_find c q
  simp only [law08_TablesFull_b9, d0, d1, d2, d3, Bool.and_self, if_true, Int.toNat_natCast, hq, hlook, hline, Option.bind_some]
  have hidxV : ∀ V : List Dc, idxI V (keyQ q) = match V.findIdx? (keyQ q) with
    | some i => (i : Int)
    | none => -1 := fun V => rfl
  have hidxD : idxI decL (hit q c) = match decL.findIdx? (hit q c) with
    | some i => (i : Int)
    | none => -1 := rfl
  rcases find_idx (keyQ q) (decL.filter (vis c)) with ⟨a1, a2⟩ | ⟨m, a1, a2, a3, a4⟩
  · rw [a2] at hvf
    rcases find_idx (hit q c) decL with ⟨b1, b2⟩ | ⟨j, b1, b2, b3, b4⟩
    · rw [hidxV, hidxD, a1, b1]
      have e1 : decide ((-1 : Int) ≥ 0) = false := rfl
      have e2 : decide ((-1 : Int) < 0) = true := rfl
      simp only [e1, e2, decide_true, Bool.not_true, Bool.false_eq_true, if_false, if_true, hw]
    · rw [b3] at hvf; cases hvf
  · rw [a3] at hvf
    rcases find_idx (hit q c) decL with ⟨b1, b2⟩ | ⟨j, b1, b2, b3, b4⟩
    · rw [b2] at hvf; cases hvf
    · rw [b3] at hvf
      have hmem : decL.getD j zD ∈ decL := by
        rw [List.getD_eq_getElem?_getD, List.getElem?_eq_getElem b1]
        exact List.getElem_mem _
      have hjq : (decL.getD j zD).1 = q := by
        unfold hit at b4
        simp only [Bool.and_eq_true, beq_iff_eq] at b4
        exact b4.1
      obtain ⟨l, hl1, hl2⟩ := decL_full c _ hmem
      rw [hjq] at hl1
      have hfull := rfull_is theR theC decL theL theW theS (by rw [decL_len]; omega) decL_toL c q l hl1 (by omega)
      have hVq : ((decL.filter (vis c)).getD m zD).1 = q := beq_iff_eq.1 a4
      have hfo : fullOf decL c q = l := by unfold fullOf; rw [hl1]; rfl
      have hRl : ((decL.filter (vis c)).map (fun d => pad (fullOf decL c d.1))).length = (decL.filter (vis c)).length := List.length_map _
      have hRow : ((decL.filter (vis c)).map (fun d => pad (fullOf decL c d.1))).getD m [] = pad l := by
        rw [List.getD_eq_getElem?_getD, List.getElem?_map]
        have : (decL.filter (vis c))[m]? = some ((decL.filter (vis c)).getD m zD) := by
          rw [List.getD_eq_getElem?_getD, List.getElem?_eq_getElem a1]; rfl
        rw [this]
        show pad (fullOf decL c ((decL.filter (vis c)).getD m zD).1) = pad l
        rw [hVq, hfo]
      have hrow := row_is theR theC decL theL theW theS c (m : Int) (i : Int) two ((decL.filter (vis c)).map (fun d => d.1)) ((decL.filter (vis c)).map (fun d => pad (fullOf decL c d.1))) l hl2
      rw [hidxV, hidxD, a2, b2]
      have e1 : decide ((m : Int) ≥ 0) = true := decide_eq_true (by omega)
      have e2 : decide ((m : Int) < 0) = false := decide_eq_false (by omega)
      have e3 : decide ((j : Int) ≥ 0) = true := decide_eq_true (by omega)
      have e4 : decide ((0 : Int) ≤ (m : Int)) = true := decide_eq_true (by omega)
      have e5 : decide ((m : Int) < ((decL.filter (vis c)).length : Int)) = true := decide_eq_true (by omega)
      have e6 : decide (m < (decL.filter (vis c)).length) = true := decide_eq_true a1
      have hpl := pad_len l hl2
      have e7 : ((((pad l).length : Nat) : Int) != 3) = false := by rw [hpl]; rfl
      have e8 : decide ((l.length : Int) > 3) = false := decide_eq_false (by omega)
      simp only [e1, e2, e3, decide_true, Bool.not_true, Bool.false_eq_true, if_false, if_true, hfull, Option.bind_some, hRl, e4, e5, e6, Bool.and_self, Int.toNat_natCast, hRow, hrow, e7, e8, hw]

theorem TablesFull_is (p a : Int) (c : Bool) (h0 : 0 ≤ a) (h1 : a ≤ 65535) : law08_TablesFull p a c = some true := by
  unfold law08_TablesFull
  rw [awake_is, rnew_is, new_is]
  simp only [Option.bind_some, Bool.not_true, Bool.false_eq_true, if_false, FullD c]
  have hlen0 : 0 < (decL.filter (vis c)).length := by
    cases c
    · have : (decL.filter (vis false)).length = 306 := by kernel_rfl
      omega
    · have : (decL.filter (vis true)).length = 506 := by kernel_rfl
      omega
  have hlenM : (decL.filter (vis c)).length ≤ 1000000 := Nat.le_trans (List.length_filter_le _ _) (by rw [decL_len]; omega)
  have hround := round_is c
  generalize decL.filter (vis c) = V at *
  have hK : (V.map (fun d => d.1)).length = V.length := List.length_map _
  have hRw : (V.map (fun d => pad (fullOf decL c d.1))).length = V.length := List.length_map _
  have hwa : IntKind.i64.wrap a = a := wrap_i64 a (by omega) (by omega)
  have c1 : ((V.length : Int) != (V.length : Int)) = false := bne_self_eq_false _
  have c2 : decide ((V.length : Int) = 0) = false := decide_eq_false (by omega)
  have m0 : 0 ≤ Int.tmod a (V.length : Int) := Int.tmod_nonneg _ h0
  have m1 : Int.tmod a (V.length : Int) < (V.length : Int) := Int.tmod_lt_of_pos _ (by omega)
  obtain ⟨k, hk⟩ : ∃ k : Nat, Int.tmod a (V.length : Int) = k := ⟨(Int.tmod a (V.length : Int)).toNat, by omega⟩
  rw [hk] at m1
  have c3 : decide ((0 : Int) ≤ (k : Int)) = true := decide_eq_true (by omega)
  have c4 : decide ((k : Int) < (V.length : Int)) = true := decide_eq_true m1
  have c5 : decide (k < V.length) = true := decide_eq_true (by omega)
  simp only [hK, hRw, c1, Bool.false_eq_true, if_false, c2, Bool.not_false, if_true, hwa, hk, c3, c4, Bool.and_self, Int.toNat_natCast, c5]
  generalize hT : [p, (V.map (fun d => d.1)).getD k 0] = two
  have h2 : two.length = 2 := by rw [← hT]; rfl
  have loop : runLoop law08_TablesFull_b9 (c, (0 : Int), two, theR, theC, decL, theL, theW, theS, V.map (fun d => d.1), V.map (fun d => pad (fullOf decL c d.1))) = some (.inl ()) := by
    have s0 := hround two h2 0 (by omega)
    have s1 := hround two h2 1 (by omega)
    have s0' : law08_TablesFull_b9 (c, (0 : Int), two, theR, theC, decL, theL, theW, theS, V.map (fun d => d.1), V.map (fun d => pad (fullOf decL c d.1))) = _ := s0
    rw [runLoop_step s0', runLoop_step s1]
    exact runLoop_done rfl
  rw [loop]
  rfl
end Go.Pc
