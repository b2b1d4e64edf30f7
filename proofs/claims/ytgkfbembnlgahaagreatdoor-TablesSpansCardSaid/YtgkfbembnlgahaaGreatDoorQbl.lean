/- Part 38 of the proof of the statement that the last part names; it asks for no condition of its own. Here: PcRef4. -/
import Derived.Test.YtgkfbembnlgahaaGreatDoorQbg
set_option linter.unusedVariables false
set_option linter.unusedSimpArgs false
set_option maxRecDepth 100000
namespace Go.Pc
open Go Go.Sx Go.Tx
theorem rdec_inner (i : Nat) (acc : List (Int × List Int × Bool × Bool)) (L : List (List ByteArray)) (W : List ByteArray) (hW : W.length ≤ 1000001) (hi : i ≤ 1000001) (h0 : Int) (h2 h3 : Bool) :
    ∀ (n k : Nat) (out : List Int), n + k = W.length → out.length ≤ k → runLoop ref07_Decomps_b11 ((i : Int), (k : Int), acc, L, W, h0, h2, h3, out) = some (if ptsOK (W.drop k) then .inl ((i : Int), acc, L, h0, h2, h3, out ++ (W.drop k).map (fun x => (ptN x : Int))) else .inr ((i + 1 : Nat) : Int)) := by
  have hwi : IntKind.i64.wrap ((i : Int) + 1) = ((i + 1 : Nat) : Int) := by rw [wrap_i64] <;> omega
  intro n
  induction n with
  | zero =>
    intro k out h1 ho
    have : k = W.length := by omega
    subst this
    have d0 : decide ((W.length : Int) < (W.length : Int)) = false := decide_eq_false (by omega)
    rw [runLoop_done (x := Sum.inl ((i : Int), acc, L, h0, h2, h3, out)) (by simp only [ref07_Decomps_b11, d0, Bool.false_eq_true, if_false]), List.drop_length]
    simp [ptsOK]
  | succ n ih =>
    intro k out h1 ho
    have hk : k < W.length := by omega
    have d0 : decide ((k : Int) < (W.length : Int)) = true := decide_eq_true (by omega)
    have d1 : decide ((0 : Int) ≤ (k : Int)) = true := decide_eq_true (by omega)
    have d2 : decide (k < W.length) = true := decide_eq_true hk
    have hg : W.getD k ByteArray.empty = W[k] := by rw [List.getD_eq_getElem?_getD, List.getElem?_eq_getElem hk]; rfl
    have hw : IntKind.i64.wrap ((k : Int) + 1) = ((k + 1 : Nat) : Int) := by rw [wrap_i64] <;> omega
    have hp := rpoint_is W[k]
    rw [List.drop_eq_getElem_cons hk]
    cases hP : ptOK W[k]
    · rw [hP] at hp
      simp only [Bool.false_eq_true, if_false] at hp
      have e : ptsOK (W[k] :: W.drop (k + 1)) = false := by
        show (ptOK W[k] && _) = false
        rw [hP]; rfl
      rw [e, runLoop_done (x := Sum.inr ((i + 1 : Nat) : Int)) (by
        simp only [ref07_Decomps_b11, ref07_Decomps_c13, d0, d1, d2, Bool.and_self, if_true, Int.toNat_natCast, hg, hp, Option.bind_some, show decide ((-1 : Int) < 0) = true from rfl, hwi])]
      rfl
    · rw [hP] at hp
      simp only [if_true] at hp
      have hle := ptN_le hP
      have c0 : decide ((ptN W[k] : Int) < 0) = false := decide_eq_false (by omega)
      have hu : IntKind.u32.wrap (ptN W[k] : Int) = ptN W[k] := by rw [IntKind.wrap_u32]; omega
      have hlen : decide ((out.length + [(ptN W[k] : Int)].length) * 4 ≤ 140737488355328) = true := decide_eq_true (by simp; omega)
      have h15 : ref07_Decomps_c15 ((i : Int), (k : Int), acc, L, W, h0, h2, h3, out) = some ((i : Int), (k : Int), acc, L, W, h0, h2, h3, out ++ [(ptN W[k] : Int)]) := by
        simp only [ref07_Decomps_c15, d1, d0, d2, Bool.and_self, if_true, Int.toNat_natCast, hg, hp, Option.bind_some, hu, hlen]
      have e : ptsOK (W[k] :: W.drop (k + 1)) = ptsOK (W.drop (k + 1)) := by
        show (ptOK W[k] && ptsOK _) = _
        rw [hP, Bool.true_and]
      rw [e, runLoop_step (v' := ((i : Int), ((k + 1 : Nat) : Int), acc, L, W, h0, h2, h3, out ++ [(ptN W[k] : Int)])) (by
        simp only [ref07_Decomps_b11, ref07_Decomps_c13, d0, d1, d2, Bool.and_self, if_true, Int.toNat_natCast, hg, hp, Option.bind_some, c0, Bool.false_eq_true, if_false, h15, ref07_Decomps_c12, hw])]
      rw [ih (k + 1) (out ++ [(ptN W[k] : Int)]) (by omega) (by simp; omega), List.map_cons, List.append_assoc]
      rfl

theorem rdec_c9 (i : Nat) (acc : List (Int × List Int × Bool × Bool)) (L : List (List ByteArray)) (a b c : ByteArray) (r : List ByteArray) (hW : (a :: b :: c :: r).length ≤ 5) (hi : i ≤ 1000001) (ha : acc.length = i) (hA : ptOK a = true)
    (hS : (isB b [61] || (isB b [33] || isB b [126])) = true) :
    ref07_Decomps_c9 ((i : Int), acc, L, a :: b :: c :: r) = some (match oneDecomp (a :: b :: c :: r) acc with
      | some x => .inr ((i : Int), acc ++ [x], L)
      | none => .inl ((i + 1 : Nat) : Int)) := by
  have hOne : oneDecomp (a :: b :: c :: r) acc = if (decide (1 ≤ b.size) && decide (b.size ≤ 1) && allIn signsB b) && ptOK a && (ptsOK (c :: r) && decide ((c :: r).length ≤ 3)) && aheadI (acc.getLast?.map (fun e => e.1)) (ptN a) then
      some ((ptN a : Int), (c :: r).map (fun x => (ptN x : Int)), isB b [126], isB b [33]) else none := rfl
  have hl3 : decide ((c :: r).length ≤ 3) = true := decide_eq_true (by simp at hW ⊢; omega)
  rw [signs_is, hS, hA, hl3] at hOne
  simp only [Bool.true_and, Bool.and_true] at hOne
  have hp := rpoint_is a
  rw [hA] at hp
  simp only [if_true] at hp
  have hle := ptN_le hA
  have hu : IntKind.u32.wrap (ptN a : Int) = ptN a := by rw [IntKind.wrap_u32]; omega
  have inner := rdec_inner i acc L (a :: b :: c :: r) (by omega) hi (ptN a : Int) (isB b [126]) (isB b [33]) ((a :: b :: c :: r).length - 2) 2 [] (by simp) (by simp)
  have hd : (a :: b :: c :: r).drop 2 = c :: r := rfl
  rw [hd, List.nil_append] at inner
  have inner' : runLoop ref07_Decomps_b11 ((i : Int), (2 : Int), acc, L, a :: b :: c :: r, (ptN a : Int), isB b [126], isB b [33], []) = _ := inner
  have e5 : decide ((0 : Int) < (((a :: b :: c :: r).length : Nat) : Int)) = true := decide_eq_true (by simp only [List.length_cons]; omega)
  have e6 : decide (0 < (a :: b :: c :: r).length) = true := decide_eq_true (by simp only [List.length_cons]; omega)
  have e7 : decide ((1 : Int) < (((a :: b :: c :: r).length : Nat) : Int)) = true := decide_eq_true (by simp only [List.length_cons]; omega)
  have e8 : decide (1 < (a :: b :: c :: r).length) = true := decide_eq_true (by simp only [List.length_cons]; omega)
  have g0 : (a :: b :: c :: r).getD 0 ByteArray.empty = a := rfl
  have g1 : (a :: b :: c :: r).getD 1 ByteArray.empty = b := rfl
  have hwr : IntKind.i64.wrap ((i : Int) + 1) = ((i + 1 : Nat) : Int) := by rw [wrap_i64] <;> omega
  have hlen : ∀ x : Int × List Int × Bool × Bool, decide ((acc.length + [x].length) * 40 ≤ 140737488355328) = true := fun x => decide_eq_true (by simp; omega)
  simp only [ref07_Decomps_c9, e5, e6, e7, e8, if_true, g0, g1, hp, Option.bind_some, isB_eq, hu, inner']
  rw [hOne]
  cases hP : ptsOK (c :: r)
  · rfl
  · simp only [if_true, Bool.true_and]
    by_cases h0 : 0 < i
    · have c1 : decide ((i : Int) > 0) = true := decide_eq_true (by omega)
      have hwp : IntKind.i64.wrap ((i : Int) - 1) = ((i - 1 : Nat) : Int) := by rw [wrap_i64] <;> omega
      have c2 : decide ((0 : Int) ≤ ((i - 1 : Nat) : Int)) = true := decide_eq_true (by omega)
      have c3 : decide (((i - 1 : Nat) : Int) < (acc.length : Int)) = true := decide_eq_true (by omega)
      have c4 : decide (i - 1 < acc.length) = true := decide_eq_true (by omega)
      have hb : aheadI (acc.getLast?.map (fun e => e.1)) (ptN a : Int) = !decide ((acc.getD (i - 1) ((0 : Int), ([], (false, false)))).1 ≥ (ptN a : Int)) := by
        rcases last_cases acc with rfl | ⟨j, e, rfl⟩
        · simp at ha; omega
        · have hj : i - 1 = j.length := by rw [← ha]; simp
          rw [hj, getD_lst, List.getLast?_concat]
          rfl
      simp only [c1, if_true, hwp, c2, c3, Bool.and_self, Int.toNat_natCast, c4]
      rw [hb]
      cases hB : decide ((acc.getD (i - 1) ((0 : Int), ([], (false, false)))).1 ≥ (ptN a : Int))
      · simp only [Bool.false_eq_true, if_false, ref07_Decomps_c18, hlen, if_true, Option.bind_some, Bool.not_false]
      · simp only [if_true, Bool.not_true, Bool.false_eq_true, if_false, hwr]
    · have c1 : decide ((i : Int) > 0) = false := decide_eq_false (by omega)
      have hnil : acc = [] := nil_of_len (by omega)
      subst hnil
      simp only [c1, Bool.false_eq_true, if_false, ref07_Decomps_c18, hlen, if_true, Option.bind_some, List.getLast?_nil, Option.map_none, aheadI]

theorem rDecomps_step (L : List (List ByteArray)) (hLl : L.length ≤ 1000001) (i : Nat) (acc : List (Int × List Int × Bool × Bool)) (w : List ByteArray) (hw : L[i]? = some w) (ha : acc.length = i) (hi : i < L.length) :
    ref07_Decomps_b4 ((i : Int), L, acc) = some (stepB2 L i acc (oneDecomp w acc)) := by
  have d0 : decide ((i : Int) < (L.length : Int)) = true := decide_eq_true (by omega)
  have d1 : decide ((0 : Int) ≤ (i : Int)) = true := decide_eq_true (by omega)
  have d2 : decide (i < L.length) = true := decide_eq_true hi
  have hg : L.getD i [] = w := by rw [List.getD_eq_getElem?_getD, hw]; rfl
  have hwr : IntKind.i64.wrap ((i : Int) + 1) = ((i + 1 : Nat) : Int) := by rw [wrap_i64] <;> omega
  by_cases h3 : w.length < 3
  · have e0 : decide (((w.length : Nat) : Int) < 3) = true := decide_eq_true (by omega)
    rw [oneDecomp_ne acc h3]
    simp only [ref07_Decomps_b4, ref07_Decomps_c6, d0, d1, d2, Bool.and_self, if_true, Int.toNat_natCast, hg, e0, hwr, Option.bind_some, stepB2]
  · have e0 : decide (((w.length : Nat) : Int) < 3) = false := decide_eq_false (by omega)
    obtain ⟨a, b, c, r, rfl⟩ := more3 h3
    have hOne : oneDecomp (a :: b :: c :: r) acc = if (decide (1 ≤ b.size) && decide (b.size ≤ 1) && allIn signsB b) && ptOK a && (ptsOK (c :: r) && decide ((c :: r).length ≤ 3)) && aheadI (acc.getLast?.map (fun e => e.1)) (ptN a) then
      some ((ptN a : Int), (c :: r).map (fun x => (ptN x : Int)), isB b [126], isB b [33]) else none := rfl
    rw [signs_is] at hOne
    have g0 : (a :: b :: c :: r).getD 0 ByteArray.empty = a := rfl
    have g1 : (a :: b :: c :: r).getD 1 ByteArray.empty = b := rfl
    have e5 : decide ((0 : Int) < (((a :: b :: c :: r).length : Nat) : Int)) = true := decide_eq_true (by simp only [List.length_cons]; omega)
    have e6 : decide (0 < (a :: b :: c :: r).length) = true := decide_eq_true (by simp only [List.length_cons]; omega)
    have e7 : decide ((1 : Int) < (((a :: b :: c :: r).length : Nat) : Int)) = true := decide_eq_true (by simp only [List.length_cons]; omega)
    have e8 : decide (1 < (a :: b :: c :: r).length) = true := decide_eq_true (by simp only [List.length_cons]; omega)
    by_cases h5 : (a :: b :: c :: r).length > 5
    · have e1 : decide ((((a :: b :: c :: r).length : Nat) : Int) > 5) = true := decide_eq_true (by omega)
      have ho : oneDecomp (a :: b :: c :: r) acc = none := by
        have : decide ((c :: r).length ≤ 3) = false := decide_eq_false (by simp only [List.length_cons] at h5 ⊢; omega)
        rw [hOne, this]
        simp only [Bool.and_false, Bool.false_and, Bool.false_eq_true, if_false]
      rw [ho]
      simp only [ref07_Decomps_b4, ref07_Decomps_c6, d0, d1, d2, Bool.and_self, if_true, Int.toNat_natCast, hg, e0, Bool.false_eq_true, if_false, e1, hwr, Option.bind_some, stepB2]
    · have e1 : decide ((((a :: b :: c :: r).length : Nat) : Int) > 5) = false := decide_eq_false (by omega)
      have hp := rpoint_is a
      simp only [ref07_Decomps_b4, ref07_Decomps_c6, d0, d1, d2, Bool.and_self, if_true, Int.toNat_natCast, hg, e0, Bool.false_eq_true, if_false, e1, e5, e6, e7, e8, g0, g1, isB_eq, hp, Option.bind_some, hwr]
      cases hA : ptOK a
      · have ho : oneDecomp (a :: b :: c :: r) acc = none := by
          rw [hOne, hA]
          simp only [Bool.and_false, Bool.false_and, Bool.false_eq_true, if_false]
        rw [ho]
        have cm : decide ((-1 : Int) < 0) = true := rfl
        simp only [Bool.false_eq_true, if_false, cm, if_true]
        cases isB b [61]
        · cases isB b [33]
          · cases isB b [126] <;> rfl
          · rfl
        · rfl
      · have hle := ptN_le hA
        have c0 : decide ((ptN a : Int) < 0) = false := decide_eq_false (by omega)
        simp only [if_true, c0, Bool.false_eq_true, if_false]
        cases hS : (isB b [61] || (isB b [33] || isB b [126]))
        · have ho : oneDecomp (a :: b :: c :: r) acc = none := by
            rw [hOne, hS]
            simp only [Bool.false_and, Bool.false_eq_true, if_false]
          rw [ho]
          simp only [Bool.or_eq_false_iff] at hS
          obtain ⟨s1, s2, s3⟩ := hS
          rw [s1, s2, s3]
          rfl
        · have h9 := rdec_c9 i acc L a b c r (by omega) (by omega) ha hA hS
          rw [h9]
          have fin : ∀ x : Option (Int × List Int × Bool × Bool), ((some (match x with
              | some x => Sum.inr ((i : Int), acc ++ [x], L)
              | none => Sum.inl ((i + 1 : Nat) : Int))).bind fun r1_0 : Int ⊕ (Int × List (Int × List Int × Bool × Bool) × List (List ByteArray)) => match r1_0 with
              | .inl r2_0 => some (.inl r2_0)
              | .inr (r3_0, r3_1, r3_2) => (ref07_Decomps_c5 (r3_0, r3_1, r3_2)).bind fun (r4_0, r4_1, r4_2) => some (.inr (r4_0, (r4_1, r4_2)))) = some (match x with
              | some x => Sum.inr (((i + 1 : Nat) : Int), acc ++ [x], L)
              | none => Sum.inl ((i + 1 : Nat) : Int)) := by
            intro x
            cases x with
            | none => rfl
            | some x => simp only [Option.bind_some, ref07_Decomps_c5, hwr]
          have h3c : ∀ (b1 b2 b3 : Bool), (b1 || (b2 || b3)) = true → ∀ (A B : Option (Int ⊕ (Int × List (Int × List Int × Bool × Bool) × List (List ByteArray)))), (if (!b1) = true then if (!b2) = true then if (!b3) = true then B else A else A else A) = A := by
            intro b1 b2 b3 h A B
            cases b1
            · cases b2
              · cases b3
                · cases h
                · rfl
              · rfl
            · rfl
          rw [h3c _ _ _ hS]
          have hf := fin (oneDecomp (a :: b :: c :: r) acc)
          refine (congrArg (fun o => Option.bind o _) hf).trans ?_
          cases oneDecomp (a :: b :: c :: r) acc <;> rfl
theorem rDecomps_is (s : ByteArray) (hs : s.size ≤ 1000000) : ref07_Decomps s = some (resB (readR oneDecomp (linesOf s) [] 0)) := by
  unfold ref07_Decomps
  rw [rlines_is s hs]
  simp only [Option.bind_some]
  have h1 := lines_len s hs
  generalize linesOf s = L at *
  have key := readB2_go ref07_Decomps_b4 oneDecomp L (fun acc => by simp [ref07_Decomps_b4]) (rDecomps_step L h1) L.length 0 [] (by omega) rfl
  rw [show ((0 : Nat) : Int) = 0 from rfl, List.drop_zero] at key
  rw [key]
  simp only [Option.bind_some]
  cases readR oneDecomp L [] 0 <;> rfl
end Go.Pc
