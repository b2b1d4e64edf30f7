/- Part 13 of the proof of the statement that the last part names; it asks for no condition of its own. Here: PcRef5. -/
import Derived.Test.YtgkfbembnlgahaaGreatDoorQaj
import Derived.Test.YtgkfbembnlgahaaGreatDoorQal
/- The document's lines and what a point becomes in full: pure. -/
set_option linter.unusedVariables false
set_option linter.unusedSimpArgs false
set_option maxRecDepth 100000
namespace Go.Pc
open Go Go.Sx Go.Tx

def idxI (D : List Dc) (q : Dc → Bool) : Int := match D.findIdx? q with
  | some i => (i : Int)
  | none => -1
theorem find_idx (q : Dc → Bool) : ∀ D : List Dc, (D.findIdx? q = none ∧ D.find? q = none) ∨ ∃ i, i < D.length ∧ D.findIdx? q = some i ∧ D.find? q = some (D.getD i zD) ∧ q (D.getD i zD) = true
  | [] => .inl ⟨rfl, rfl⟩
  | d :: r => by
    rw [List.findIdx?_cons, List.find?_cons]
    by_cases h : q d = true
    · refine .inr ⟨0, by simp, ?_, ?_, ?_⟩
      · rw [if_pos h]
      · rw [h]; rfl
      · exact h
    · have h' : q d = false := by simpa using h
      rw [if_neg h, h']
      rcases find_idx q r with ⟨h1, h2⟩ | ⟨i, h1, h2, h3, h4⟩
      · left
        rw [h1, h2]
        exact ⟨rfl, rfl⟩
      · right
        refine ⟨i + 1, by simp; omega, ?_, ?_, ?_⟩
        · rw [h2]; rfl
        · simp only [h3]
          rfl
        · exact h4

section
variable (l0 : List (Int × Int × ByteArray × ByteArray × ByteArray × Bool)) (l1 : List (Int × Int × Int)) (D : List Dc) (l3 l4 : List (Int × Int × Int)) (l5 : List (ByteArray × Int × Int))
theorem rline_loop (hl : D.length ≤ 1000000) (p : Int) (c : Bool) : ∀ (n i : Nat), n + i = D.length → runLoop ref08_Tables_Line_b2 (p, c, (i : Int), l0, l1, D, l3, l4, l5) = some (match (D.drop i).findIdx? (hit p c) with
    | some j => .inl (((i + j : Nat) : Int), l0, l1, D, l3, l4, l5)
    | none => .inr (l0, l1, D, l3, l4, l5)) := by
  intro n
  induction n with
  | zero =>
    intro i h1
    have : i = D.length := by omega
    subst this
    have d0 : decide ((D.length : Int) < (D.length : Int)) = false := decide_eq_false (by omega)
    rw [runLoop_done (x := .inr (l0, l1, D, l3, l4, l5)) (by simp only [ref08_Tables_Line_b2, d0, Bool.false_eq_true, if_false]), List.drop_length]
    rfl
  | succ n ih =>
    intro i h1
    have hi : i < D.length := by omega
    have d0 : decide ((i : Int) < (D.length : Int)) = true := decide_eq_true (by omega)
    have d1 : decide ((0 : Int) ≤ (i : Int)) = true := decide_eq_true (by omega)
    have d2 : decide (i < D.length) = true := decide_eq_true hi
    have hg : D.getD i ((0 : Int), ([], (false, false))) = D[i] := by simp [List.getD, List.getElem?_eq_getElem hi]
    have hw : IntKind.i64.wrap ((i : Int) + 1) = ((i + 1 : Nat) : Int) := by rw [wrap_i64] <;> omega
    rw [List.drop_eq_getElem_cons hi, List.findIdx?_cons]
    by_cases h : hit p c D[i] = true
    · rw [if_pos h]
      have hh := h
      unfold hit at hh
      simp only [Bool.and_eq_true, beq_iff_eq] at hh
      have e1 : decide (D[i].1 = p) = true := decide_eq_true hh.1
      refine runLoop_done (x := Sum.inl (((i + 0 : Nat) : Int), l0, l1, D, l3, l4, l5)) ?_
      cases c
      · have e2 : D[i].2.2.1 = false := by simpa using hh.2
        simp only [ref08_Tables_Line_b2, d0, d1, d2, Bool.and_self, if_true, Int.toNat_natCast, hg, e1, Bool.false_eq_true, if_false, e2, Bool.not_false, Nat.add_zero]
      · simp only [ref08_Tables_Line_b2, d0, d1, d2, Bool.and_self, if_true, Int.toNat_natCast, hg, e1, Nat.add_zero]
    · rw [if_neg h]
      have hstep : ref08_Tables_Line_b2 (p, c, (i : Int), l0, l1, D, l3, l4, l5) = some (.inl (p, c, ((i + 1 : Nat) : Int), l0, l1, D, l3, l4, l5)) := by
        by_cases hp : D[i].1 = p
        · have e1 : decide (D[i].1 = p) = true := decide_eq_true hp
          have hc : (c || !D[i].2.2.1) = false := by
            have : ¬ (c || !D[i].2.2.1) = true := fun e => h (by unfold hit; rw [hp, e]; simp)
            simpa using this
          cases c
          · have e2 : D[i].2.2.1 = true := by simpa using hc
            simp only [ref08_Tables_Line_b2, d0, d1, d2, Bool.and_self, if_true, Int.toNat_natCast, hg, e1, Bool.false_eq_true, if_false, e2, Bool.not_true, hw]
          · simp at hc
        · have e1 : decide (D[i].1 = p) = false := decide_eq_false hp
          simp only [ref08_Tables_Line_b2, d0, d1, d2, Bool.and_self, if_true, Int.toNat_natCast, hg, e1, Bool.false_eq_true, if_false, hw]
      rw [runLoop_step hstep, ih (i + 1) (by omega)]
      cases List.findIdx? (hit p c) (D.drop (i + 1)) with
      | none => rfl
      | some j =>
        simp only [Option.map_some]
        rw [show i + 1 + j = i + (j + 1) from by omega]
theorem rline_is (hl : D.length ≤ 1000000) (p : Int) (c : Bool) : ref08_Tables_Line p c l0 l1 D l3 l4 l5 = some (idxI D (hit p c), l0, l1, D, l3, l4, l5) := by
  unfold ref08_Tables_Line idxI
  have h := rline_loop l0 l1 D l3 l4 l5 hl p c D.length 0 (by omega)
  have h' : runLoop ref08_Tables_Line_b2 (p, c, (0 : Int), l0, l1, D, l3, l4, l5) = _ := h
  rw [h', List.drop_zero]
  cases List.findIdx? (hit p c) D with
  | none => rfl
  | some j => simp only [Option.bind_some, Nat.zero_add]

theorem rfull_loop (c : Bool) (rec : Int → Bool → (List (Int × Int × ByteArray × ByteArray × ByteArray × Bool)) → (List (Int × Int × Int)) → (List Dc) → (List (Int × Int × Int)) → (List (Int × Int × Int)) → (List (ByteArray × Int × Int)) → Option ((List (Int) × List (Int × Int × ByteArray × ByteArray × ByteArray × Bool) × List (Int × Int × Int) × List (Int × List (Int) × Bool × Bool) × List (Int × Int × Int) × List (Int × Int × Int) × List (ByteArray × Int × Int))))
    (f : Int → Option (List Int)) (hrec : ∀ q l, f q = some l → l.length ≤ 1000 → rec q c l0 l1 D l3 l4 l5 = some (l, l0, l1, D, l3, l4, l5)) (m : Nat) (hm : m < D.length) (hl : D.length ≤ 1000000) (hto : (D.getD m zD).2.1.length ≤ 1000000) :
    ∀ (n i : Nat) (acc r : List Int), n + i = (D.getD m zD).2.1.length → fullL f ((D.getD m zD).2.1.drop i) = some r → acc.length + r.length ≤ 1000 →
      runLoop (ref08_Tables_Full_b6 rec) (c, (m : Int), (i : Int), l0, l1, D, l3, l4, l5, acc) = some (acc ++ r, l0, l1, D, l3, l4, l5) := by
  have hz : D.getD m ((0 : Int), ([], (false, false))) = D.getD m zD := rfl
  generalize hT : (D.getD m zD).2.1 = tw at *
  have m1 : decide ((0 : Int) ≤ (m : Int)) = true := decide_eq_true (by omega)
  have m2 : decide ((m : Int) < (D.length : Int)) = true := decide_eq_true (by omega)
  have m3 : decide (m < D.length) = true := decide_eq_true hm
  intro n
  induction n with
  | zero =>
    intro i acc r h1 h2 h3
    have : i = tw.length := by omega
    subst this
    rw [List.drop_length] at h2
    cases h2
    have d0 : decide ((tw.length : Int) < (tw.length : Int)) = false := decide_eq_false (by omega)
    rw [List.append_nil]
    exact runLoop_done (by simp only [ref08_Tables_Full_b6, m1, m2, m3, Bool.and_self, if_true, Int.toNat_natCast, hz, hT, d0, Bool.false_eq_true, if_false])
  | succ n ih =>
    intro i acc r h1 h2 h3
    have hi : i < tw.length := by omega
    rw [List.drop_eq_getElem_cons hi] at h2
    unfold fullL at h2
    cases hf : f tw[i] with
    | none => rw [hf] at h2; cases h2
    | some a =>
      rw [hf] at h2
      simp only [Option.bind_some] at h2
      cases hg : fullL f (tw.drop (i + 1)) with
      | none => rw [hg] at h2; cases h2
      | some b =>
        rw [hg] at h2
        cases h2
        rw [List.length_append] at h3
        have hr := hrec _ _ hf (by omega)
        have d0 : decide ((i : Int) < (tw.length : Int)) = true := decide_eq_true (by omega)
        have d1 : decide ((0 : Int) ≤ (i : Int)) = true := decide_eq_true (by omega)
        have d2 : decide (i < tw.length) = true := decide_eq_true hi
        have hgd : tw.getD i 0 = tw[i] := by simp [List.getD, List.getElem?_eq_getElem hi]
        have hw : IntKind.i64.wrap ((i : Int) + 1) = ((i + 1 : Nat) : Int) := by rw [wrap_i64] <;> omega
        have hlen : decide ((acc.length + a.length) * 4 ≤ 140737488355328) = true := decide_eq_true (by omega)
        rw [runLoop_step (v' := (c, (m : Int), ((i + 1 : Nat) : Int), l0, l1, D, l3, l4, l5, acc ++ a)) (by simp only [ref08_Tables_Full_b6, m1, m2, m3, hz, hT, d0, d1, d2, Bool.and_self, if_true, Int.toNat_natCast, hgd, hr, Option.bind_some, hlen, hw])]
        rw [ih (i + 1) (acc ++ a) b (by omega) hg (by rw [List.length_append]; omega), List.append_assoc]

theorem rfull_n (hl : D.length ≤ 1000000) (hT : ∀ d ∈ D, d.2.1.length ≤ 1000000) (c : Bool) : ∀ (n : Nat) (p : Int) (l : List Int), fullS D c n p = some l → l.length ≤ 1000 →
    ref08_Tables_Full_n n p c l0 l1 D l3 l4 l5 = some (l, l0, l1, D, l3, l4, l5) := by
  intro n
  induction n with
  | zero => intro p l h; cases h
  | succ n ih =>
    intro p l h hlen
    unfold fullS fnd at h
    unfold ref08_Tables_Full_n ref08_Tables_Full_r
    rw [rline_is l0 l1 D l3 l4 l5 hl]
    unfold idxI
    rcases find_idx (hit p c) D with ⟨h1, h2⟩ | ⟨m, h1, h2, h3, _⟩
    · rw [h2] at h
      cases h
      rw [h1]
      rfl
    · rw [h3] at h
      rw [h2]
      have hmem : D.getD m zD ∈ D := by
        rw [List.getD_eq_getElem?_getD, List.getElem?_eq_getElem h1]
        exact List.getElem_mem _
      have hd := hT _ hmem
      have key := rfull_loop l0 l1 D l3 l4 l5 c (ref08_Tables_Full_n n) (fullS D c n) ih m h1 hl hd (D.getD m zD).2.1.length 0 [] l (by omega) (by rw [List.drop_zero]; exact h) (by simpa using hlen)
      have key' : runLoop (ref08_Tables_Full_b6 (ref08_Tables_Full_n n)) (c, (m : Int), (0 : Int), l0, l1, D, l3, l4, l5, []) = some ([] ++ l, l0, l1, D, l3, l4, l5) := key
      have c0 : decide ((m : Int) < 0) = false := decide_eq_false (by omega)
      simp only [Option.bind_some, c0, Bool.false_eq_true, if_false]
      rw [key']
      rfl
theorem rfull_is (hl : D.length ≤ 1000000) (hT : ∀ d ∈ D, d.2.1.length ≤ 1000000) (c : Bool) (p : Int) (l : List Int) (h : fullS D c 64 p = some l) (hlen : l.length ≤ 1000) :
    ref08_Tables_Full p c l0 l1 D l3 l4 l5 = some (l, l0, l1, D, l3, l4, l5) := rfull_n l0 l1 D l3 l4 l5 hl hT c 64 p l h hlen
end
end Go.Pc
