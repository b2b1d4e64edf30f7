/- Part 15 of the proof of the statement that the last part names; it asks for no condition of its own. Here: PcTP. -/
import Derived.Test.YtgkfbembnlgahaaGreatDoorQag
import Derived.Test.YtgkfbembnlgahaaGreatDoorQan
/- The law TablesPairs: true, whatever comes in: pure. -/
set_option linter.unusedVariables false
set_option linter.unusedSimpArgs false
set_option maxRecDepth 100000
namespace Go.Pc
open Go Go.Sx Go.Tx

def orI (x y : Int) : Int := IntKind.u32.wrap (((BitVec.toNat (BitVec.or (BitVec.ofInt 32 x) (BitVec.ofInt 32 y))) : Nat) : Int)
theorem clone_is (l : List (Int × Int × Int)) (h0 : 0 < l.length) (h1 : l.length ≤ 1000000) : slices_Clone__ l = some (l, l) := by
  have c0 : decide (0 < l.length) = true := decide_eq_true h0
  have c1 : decide ((0 + l.length) * 12 ≤ 140737488355328) = true := decide_eq_true (by omega)
  simp only [slices_Clone__, c0, Bool.and_self, if_true, c1, List.nil_append]
theorem clone2_is (l : List (Int × Int × Int)) (h0 : 0 < l.length) (h1 : l.length ≤ 1000000) : slices_Clone___i2 l = some (l, l) := by
  have c0 : decide (0 < l.length) = true := decide_eq_true h0
  have c1 : decide ((0 + l.length) * 12 ≤ 140737488355328) = true := decide_eq_true (by omega)
  simp only [slices_Clone___i2, c0, Bool.and_self, if_true, c1, List.nil_append]

theorem has_is (a b x : Int) : ∃ r, ref06_Has a b x = some r := by
  unfold ref06_Has
  split
  · exact ⟨_, rfl⟩
  · exact ⟨_, rfl⟩
theorem map_is (x : Int) (l : List (Int × Int × Int)) (h : l.length ≤ 1000000) : ∃ y b, ref06_Map x l = some (y, b, l) := by
  unfold ref06_Map
  have hw : IntKind.i64.wrap ((l.length : Int) - 1) = (l.length : Int) - 1 := by rw [wrap_i64] <;> omega
  rw [hw]
  obtain ⟨r, hr, hQ⟩ := runLoop_inv (b := ref06_Map_b2) (fun v => ∃ k : Int, v = (x, k, l) ∧ -1 ≤ k ∧ k < l.length) (fun v => (v.2.1 + 1).toNat)
    (fun r => (∃ y, r = .inl (y, l)) ∨ ∃ y b, r = .inr (y, b, l)) (by
      rintro v ⟨k, rfl, h1, h2⟩
      by_cases hk : 0 ≤ k
      · have d0 : decide (k ≥ 0) = true := decide_eq_true hk
        have d1 : decide ((0 : Int) ≤ k) = true := decide_eq_true hk
        have d2 : decide (k < (l.length : Int)) = true := decide_eq_true h2
        have d3 : decide (k.toNat < l.length) = true := decide_eq_true (by omega)
        have hwk : IntKind.i64.wrap (k - 1) = k - 1 := by rw [wrap_i64] <;> omega
        obtain ⟨r, hr⟩ := has_is (l.getD k.toNat ((0 : Int), ((0 : Int), (0 : Int)))).1 (l.getD k.toNat ((0 : Int), ((0 : Int), (0 : Int)))).2.1 x
        cases r
        · left
          refine ⟨(x, k - 1, l), ?_, ⟨k - 1, rfl, by omega, by omega⟩, by simp only; omega⟩
          simp only [ref06_Map_b2, d0, d1, d2, d3, Bool.and_self, if_true, hr, Option.bind_some, Bool.false_eq_true, if_false, hwk]
        · right
          exact ⟨.inr (IntKind.u32.wrap ((l.getD k.toNat ((0 : Int), ((0 : Int), (0 : Int)))).2.2 + IntKind.u32.wrap (x - (l.getD k.toNat ((0 : Int), ((0 : Int), (0 : Int)))).1)), true, l), by
            simp only [ref06_Map_b2, d0, d1, d2, d3, Bool.and_self, if_true, hr, Option.bind_some], .inr ⟨_, _, rfl⟩⟩
      · right
        have d0 : decide (k ≥ 0) = false := decide_eq_false (by omega)
        exact ⟨_, by simp only [ref06_Map_b2, d0, Bool.false_eq_true, if_false], .inl ⟨x, rfl⟩⟩)
    (x, (l.length : Int) - 1, l) ⟨_, rfl, by omega, by omega⟩
  rw [hr]
  rcases hQ with ⟨y, rfl⟩ | ⟨y, b, rfl⟩
  · exact ⟨_, _, rfl⟩
  · exact ⟨_, _, rfl⟩
theorem class_is (x : Int) (l : List (Int × Int × Int)) (h : l.length ≤ 1000000) : ∃ n, ref06_Class x l = some (n, l) := by
  unfold ref06_Class
  obtain ⟨r, hr, hQ⟩ := runLoop_inv (b := ref06_Class_b3) (fun v => ∃ (n : Int) (k : Nat), v = (x, n, (k : Int), l) ∧ k ≤ l.length) (fun v => ((l.length : Int) - v.2.2.1).toNat)
    (fun r => ∃ y, r = (y, l)) (by
      rintro v ⟨n, k, rfl, h1⟩
      by_cases hk : k < l.length
      · have d0 : decide ((k : Int) < (l.length : Int)) = true := decide_eq_true (by omega)
        have d1 : decide ((0 : Int) ≤ (k : Int)) = true := decide_eq_true (by omega)
        have d3 : decide (k < l.length) = true := decide_eq_true hk
        have hwk : IntKind.i64.wrap ((k : Int) + 1) = ((k + 1 : Nat) : Int) := by rw [wrap_i64] <;> omega
        obtain ⟨r, hr⟩ := has_is (l.getD k ((0 : Int), ((0 : Int), (0 : Int)))).1 (l.getD k ((0 : Int), ((0 : Int), (0 : Int)))).2.1 x
        left
        cases r
        · refine ⟨_, ?_, ⟨n, k + 1, rfl, by omega⟩, by simp only; omega⟩
          simp only [ref06_Class_b3, d0, d1, d3, Bool.and_self, if_true, Int.toNat_natCast, hr, Option.bind_some, Bool.false_eq_true, if_false, hwk]
        · refine ⟨(x, orI n (l.getD k ((0 : Int), ((0 : Int), (0 : Int)))).2.2, ((k + 1 : Nat) : Int), l), ?_, ⟨_, k + 1, rfl, by omega⟩, by simp only; omega⟩
          simp only [ref06_Class_b3, d0, d1, d3, Bool.and_self, if_true, Int.toNat_natCast, hr, Option.bind_some, hwk, orI]
      · right
        have d0 : decide ((k : Int) < (l.length : Int)) = false := decide_eq_false (by omega)
        exact ⟨(n, l), by simp only [ref06_Class_b3, d0, Bool.false_eq_true, if_false], n, rfl⟩)
    (x, 0, ((0 : Nat) : Int), l) ⟨0, 0, rfl, Nat.zero_le _⟩
  have hr' : runLoop ref06_Class_b3 (x, (0 : Int), (0 : Int), l) = some r := hr
  obtain ⟨y, rfl⟩ := hQ
  rw [hr']
  exact ⟨_, rfl⟩

/-! pairs -/
def cnd (d : Dc) : Bool := !d.2.2.1 && !d.2.2.2 && decide (d.2.1.length = 2)
def prOf (d : Dc) : Int × Int × Int := (d.2.1.getD 0 0, d.2.1.getD 1 0, d.1)
def prs (D : List Dc) : List (Int × Int × Int) := (D.filter cnd).map prOf
def qP (a b : Int) (t : Int × Int × Int) : Bool := decide (t.1 = a) && decide (t.2.1 = b)

section
variable (l1 : List (Int × Int × ByteArray × ByteArray × ByteArray × Bool)) (l2 : List (Int × Int × Int)) (D : List Dc) (l4 l5 : List (Int × Int × Int)) (l6 : List (ByteArray × Int × Int))
theorem Pairs_is (hl : D.length ≤ 1000000) : tables_Tables_Pairs l1 l2 D l4 l5 l6 = some (prs D, D, l1, l2, l4, l5, l6) := by
  unfold tables_Tables_Pairs
  have key : runLoop tables_Tables_Pairs_b5 ((D.length : Int), (0 : Int), D, l1, l2, l4, l5, l6, []) = some (prs D, D, l1, l2, l4, l5, l6) := by
    refine runLoop_to (fun i : Nat => i ≤ D.length) (fun i : Nat => ((D.length : Int), (i : Int), D, l1, l2, l4, l5, l6, prs (D.take i))) (fun i => D.length - i) _ ?_ 0 (Nat.zero_le _)
    intro i hi
    by_cases hlt : i < D.length
    · left
      refine ⟨i + 1, ?_, hlt, by omega⟩
      have d0 : decide ((i : Int) < (D.length : Int)) = true := decide_eq_true (by omega)
      have d1 : decide ((0 : Int) ≤ (i : Int)) = true := decide_eq_true (by omega)
      have d2 : decide (i < D.length) = true := decide_eq_true hlt
      have hg : D.getD i ((0 : Int), ([], (false, false))) = D[i] := by simp [List.getD, List.getElem?_eq_getElem hlt]
      have hw : IntKind.i64.wrap ((i : Int) + 1) = ((i + 1 : Nat) : Int) := by rw [wrap_i64] <;> omega
      have ht : D.take (i + 1) = D.take i ++ [D[i]] := by rw [List.take_add_one, List.getElem?_eq_getElem hlt]; rfl
      have hlen : (prs (D.take i)).length ≤ i := by
        unfold prs
        rw [List.length_map]
        exact Nat.le_trans (List.length_filter_le _ _) (by rw [List.length_take]; omega)
      have m1 : ∀ x : Int × Int × Int, decide (((prs (D.take i)).length + [x].length) * 12 ≤ 140737488355328) = true := fun x => decide_eq_true (by simp only [List.length_cons, List.length_nil]; omega)
      have hp : prs (D.take (i + 1)) = prs (D.take i) ++ (if cnd D[i] then [prOf D[i]] else []) := by
        unfold prs
        rw [ht, List.filter_append, List.map_append]
        congr 1
        cases hc : cnd D[i] <;> simp [hc]
      rw [hp]
      cases h1 : D[i].2.2.1
      · cases h2 : D[i].2.2.2
        · by_cases h3 : D[i].2.1.length = 2
          · have hc : cnd D[i] = true := by unfold cnd; rw [h1, h2, decide_eq_true h3]; rfl
            have e3 : decide (((D[i].2.1.length : Nat) : Int) = 2) = true := decide_eq_true (by omega)
            have e4 : decide ((0 : Int) < ((D[i].2.1.length : Nat) : Int)) = true := decide_eq_true (by omega)
            have e5 : decide (0 < D[i].2.1.length) = true := decide_eq_true (by omega)
            have e6 : decide ((1 : Int) < ((D[i].2.1.length : Nat) : Int)) = true := decide_eq_true (by omega)
            have e7 : decide (1 < D[i].2.1.length) = true := decide_eq_true (by omega)
            simp only [tables_Tables_Pairs_b5, d0, d1, d2, Bool.and_self, if_true, Int.toNat_natCast, hg, h1, h2, Bool.not_false, e3, e4, e5, e6, e7, m1, hw, hc, prOf]
          · have hc : cnd D[i] = false := by unfold cnd; rw [decide_eq_false h3]; simp
            have e3 : decide (((D[i].2.1.length : Nat) : Int) = 2) = false := decide_eq_false (by omega)
            simp only [tables_Tables_Pairs_b5, d0, d1, d2, Bool.and_self, if_true, Int.toNat_natCast, hg, h1, h2, Bool.not_false, e3, Bool.false_eq_true, if_false, hw, hc, List.append_nil]
        · have hc : cnd D[i] = false := by unfold cnd; rw [h2]; simp
          simp only [tables_Tables_Pairs_b5, d0, d1, d2, Bool.and_self, if_true, Int.toNat_natCast, hg, h1, h2, Bool.not_false, Bool.not_true, Bool.false_eq_true, if_false, hw, hc, List.append_nil]
      · have hc : cnd D[i] = false := by unfold cnd; rw [h1]; simp
        simp only [tables_Tables_Pairs_b5, d0, d1, d2, Bool.and_self, if_true, Int.toNat_natCast, hg, h1, Bool.not_true, Bool.false_eq_true, if_false, hw, hc, List.append_nil]
    · right
      have : i = D.length := by omega
      subst this
      have d0 : decide ((D.length : Int) < (D.length : Int)) = false := decide_eq_false (by omega)
      simp only [tables_Tables_Pairs_b5, d0, Bool.false_eq_true, if_false, List.take_length]
  rw [key]
  rfl

theorem pair_loop (hl : D.length ≤ 1000000) (a b : Int) : ∀ (n i : Nat), n + i = D.length → runLoop ref08_Tables_Pair_b2 (a, b, (i : Int), l1, l2, D, l4, l5, l6) = some (match (prs (D.drop i)).find? (qP a b) with
    | some t => .inl (t.2.2, true, l1, l2, D, l4, l5, l6)
    | none => .inr (l1, l2, D, l4, l5, l6)) := by
  intro n
  induction n with
  | zero =>
    intro i h1
    have : i = D.length := by omega
    subst this
    have d0 : decide ((D.length : Int) < (D.length : Int)) = false := decide_eq_false (by omega)
    rw [runLoop_done (x := Sum.inr (l1, l2, D, l4, l5, l6)) (by simp only [ref08_Tables_Pair_b2, d0, Bool.false_eq_true, if_false]), List.drop_length]
    rfl
  | succ n ih =>
    intro i h1
    have hlt : i < D.length := by omega
    have d0 : decide ((i : Int) < (D.length : Int)) = true := decide_eq_true (by omega)
    have d1 : decide ((0 : Int) ≤ (i : Int)) = true := decide_eq_true (by omega)
    have d2 : decide (i < D.length) = true := decide_eq_true hlt
    have hg : D.getD i ((0 : Int), ([], (false, false))) = D[i] := by simp [List.getD, List.getElem?_eq_getElem hlt]
    have hw : IntKind.i64.wrap ((i : Int) + 1) = ((i + 1 : Nat) : Int) := by rw [wrap_i64] <;> omega
    have hnext := ih (i + 1) (by omega)
    have hp : prs (D.drop i) = (if cnd D[i] then [prOf D[i]] else []) ++ prs (D.drop (i + 1)) := by
      unfold prs
      rw [List.drop_eq_getElem_cons hlt, List.filter_cons]
      cases hc : cnd D[i] <;> simp
    rw [hp]
    cases h1' : D[i].2.2.1
    · cases h2 : D[i].2.2.2
      · by_cases h3 : D[i].2.1.length = 2
        · have hc : cnd D[i] = true := by unfold cnd; rw [h1', h2, decide_eq_true h3]; rfl
          have e3 : decide (((D[i].2.1.length : Nat) : Int) = 2) = true := decide_eq_true (by omega)
          have e4 : decide ((0 : Int) < ((D[i].2.1.length : Nat) : Int)) = true := decide_eq_true (by omega)
          have e5 : decide (0 < D[i].2.1.length) = true := decide_eq_true (by omega)
          have e6 : decide ((1 : Int) < ((D[i].2.1.length : Nat) : Int)) = true := decide_eq_true (by omega)
          have e7 : decide (1 < D[i].2.1.length) = true := decide_eq_true (by omega)
          rw [if_pos hc, List.singleton_append, List.find?_cons]
          by_cases hA : D[i].2.1.getD 0 0 = a
          · by_cases hB : D[i].2.1.getD 1 0 = b
            · have hq : qP a b (prOf D[i]) = true := by unfold qP prOf; rw [decide_eq_true hA, decide_eq_true hB]; rfl
              rw [hq]
              refine runLoop_done ?_
              simp only [ref08_Tables_Pair_b2, d0, d1, d2, Bool.and_self, if_true, Int.toNat_natCast, hg, h1', h2, Bool.not_false, e3, e4, e5, e6, e7, decide_eq_true hA, decide_eq_true hB, prOf]
            · have hq : qP a b (prOf D[i]) = false := by unfold qP prOf; rw [decide_eq_false hB, Bool.and_false]
              rw [hq]
              rw [runLoop_step (v' := (a, b, ((i + 1 : Nat) : Int), l1, l2, D, l4, l5, l6)) (by simp only [ref08_Tables_Pair_b2, d0, d1, d2, Bool.and_self, if_true, Int.toNat_natCast, hg, h1', h2, Bool.not_false, e3, e4, e5, e6, e7, decide_eq_true hA, decide_eq_false hB, Bool.false_eq_true, if_false, hw])]
              exact hnext
          · have hq : qP a b (prOf D[i]) = false := by unfold qP prOf; rw [decide_eq_false hA, Bool.false_and]
            rw [hq]
            rw [runLoop_step (v' := (a, b, ((i + 1 : Nat) : Int), l1, l2, D, l4, l5, l6)) (by simp only [ref08_Tables_Pair_b2, d0, d1, d2, Bool.and_self, if_true, Int.toNat_natCast, hg, h1', h2, Bool.not_false, e3, e4, e5, decide_eq_false hA, Bool.false_eq_true, if_false, hw])]
            exact hnext
        · have hc : cnd D[i] = false := by unfold cnd; rw [decide_eq_false h3]; simp
          have e3 : decide (((D[i].2.1.length : Nat) : Int) = 2) = false := decide_eq_false (by omega)
          rw [hc, if_neg (by simp), List.nil_append]
          rw [runLoop_step (v' := (a, b, ((i + 1 : Nat) : Int), l1, l2, D, l4, l5, l6)) (by simp only [ref08_Tables_Pair_b2, d0, d1, d2, Bool.and_self, if_true, Int.toNat_natCast, hg, h1', h2, Bool.not_false, e3, Bool.false_eq_true, if_false, hw])]
          exact hnext
      · have hc : cnd D[i] = false := by unfold cnd; rw [h2]; simp
        rw [hc, if_neg (by simp), List.nil_append]
        rw [runLoop_step (v' := (a, b, ((i + 1 : Nat) : Int), l1, l2, D, l4, l5, l6)) (by simp only [ref08_Tables_Pair_b2, d0, d1, d2, Bool.and_self, if_true, Int.toNat_natCast, hg, h1', h2, Bool.not_false, Bool.not_true, Bool.false_eq_true, if_false, hw])]
        exact hnext
    · have hc : cnd D[i] = false := by unfold cnd; rw [h1']; simp
      rw [hc, if_neg (by simp), List.nil_append]
      rw [runLoop_step (v' := (a, b, ((i + 1 : Nat) : Int), l1, l2, D, l4, l5, l6)) (by simp only [ref08_Tables_Pair_b2, d0, d1, d2, Bool.and_self, if_true, Int.toNat_natCast, hg, h1', Bool.not_true, Bool.false_eq_true, if_false, hw])]
      exact hnext
theorem Pair_is (hl : D.length ≤ 1000000) (a b : Int) : ref08_Tables_Pair a b l1 l2 D l4 l5 l6 = some (match (prs D).find? (qP a b) with
    | some t => (t.2.2, true, l1, l2, D, l4, l5, l6)
    | none => (0, false, l1, l2, D, l4, l5, l6)) := by
  unfold ref08_Tables_Pair
  have h := pair_loop l1 l2 D l4 l5 l6 hl a b D.length 0 (by omega)
  have h' : runLoop ref08_Tables_Pair_b2 (a, b, (0 : Int), l1, l2, D, l4, l5, l6) = _ := h
  rw [h', List.drop_zero]
  cases (prs D).find? (qP a b) <;> rfl
end

/-! what both become -/
theorem orI_zero (y : Int) (h0 : 0 ≤ y) (h1 : y < 4294967296) : orI 0 y = y := by
  unfold orI
  have e : BitVec.or (BitVec.ofInt 32 0) (BitVec.ofInt 32 y) = BitVec.ofInt 32 y := by
    show (BitVec.ofInt 32 0 ||| BitVec.ofInt 32 y) = BitVec.ofInt 32 y
    have : BitVec.ofInt 32 0 = 0#32 := rfl
    rw [this, BitVec.zero_or]
  rw [e, BitVec.toNat_ofInt, IntKind.wrap_u32]
  omega
def twoF (a b : Int) : List (Int × Int × Int) → Int → Bool → Int × Bool
  | [], to, any => (to, any)
  | t :: r, to, any => if qP a b t then twoF a b r (orI to t.2.2) true else twoF a b r to any
theorem two_loop (P : List (Int × Int × Int)) (hl : P.length ≤ 1000000) (a b : Int) : ∀ (n i : Nat) (to : Int) (any : Bool), n + i = P.length → runLoop ref06_Two_b4 (a, b, to, any, (i : Int), P) = some ((twoF a b (P.drop i) to any).1, (twoF a b (P.drop i) to any).2, P) := by
  intro n
  induction n with
  | zero =>
    intro i to any h1
    have : i = P.length := by omega
    subst this
    have d0 : decide ((P.length : Int) < (P.length : Int)) = false := decide_eq_false (by omega)
    rw [runLoop_done (x := (to, any, P)) (by simp only [ref06_Two_b4, d0, Bool.false_eq_true, if_false]), List.drop_length]
    rfl
  | succ n ih =>
    intro i to any h1
    have hlt : i < P.length := by omega
    have d0 : decide ((i : Int) < (P.length : Int)) = true := decide_eq_true (by omega)
    have d1 : decide ((0 : Int) ≤ (i : Int)) = true := decide_eq_true (by omega)
    have d2 : decide (i < P.length) = true := decide_eq_true hlt
    have hg : P.getD i ((0 : Int), ((0 : Int), (0 : Int))) = P[i] := by simp [List.getD, List.getElem?_eq_getElem hlt]
    have hw : IntKind.i64.wrap ((i : Int) + 1) = ((i + 1 : Nat) : Int) := by rw [wrap_i64] <;> omega
    rw [List.drop_eq_getElem_cons hlt]
    unfold twoF
    by_cases hA : P[i].1 = a
    · by_cases hB : P[i].2.1 = b
      · have hq : qP a b P[i] = true := by unfold qP; rw [decide_eq_true hA, decide_eq_true hB]; rfl
        rw [if_pos hq]
        rw [runLoop_step (v' := (a, b, orI to P[i].2.2, true, ((i + 1 : Nat) : Int), P)) (by simp only [ref06_Two_b4, d0, d1, d2, Bool.and_self, if_true, Int.toNat_natCast, hg, decide_eq_true hA, decide_eq_true hB, hw, orI])]
        exact ih (i + 1) _ _ (by omega)
      · have hq : qP a b P[i] = false := by unfold qP; rw [decide_eq_false hB, Bool.and_false]
        rw [hq, if_neg (by simp)]
        rw [runLoop_step (v' := (a, b, to, any, ((i + 1 : Nat) : Int), P)) (by simp only [ref06_Two_b4, d0, d1, d2, Bool.and_self, if_true, Int.toNat_natCast, hg, decide_eq_true hA, decide_eq_false hB, Bool.false_eq_true, if_false, hw])]
        exact ih (i + 1) _ _ (by omega)
    · have hq : qP a b P[i] = false := by unfold qP; rw [decide_eq_false hA, Bool.false_and]
      rw [hq, if_neg (by simp)]
      rw [runLoop_step (v' := (a, b, to, any, ((i + 1 : Nat) : Int), P)) (by simp only [ref06_Two_b4, d0, d1, d2, Bool.and_self, if_true, Int.toNat_natCast, hg, decide_eq_false hA, Bool.false_eq_true, if_false, hw])]
      exact ih (i + 1) _ _ (by omega)
theorem Two_is (P : List (Int × Int × Int)) (hl : P.length ≤ 1000000) (a b : Int) : ref06_Two a b P = some ((twoF a b P 0 false).1, (twoF a b P 0 false).2, P) := by
  unfold ref06_Two
  have h := two_loop P hl a b P.length 0 0 false (by omega)
  have h' : runLoop ref06_Two_b4 (a, b, (0 : Int), false, (0 : Int), P) = _ := h
  rw [h', List.drop_zero]
  rfl
def uniqB : List (Int × Int × Int) → Bool
  | [] => true
  | t :: r => r.all (fun u => !(decide (u.1 = t.1) && decide (u.2.1 = t.2.1))) && uniqB r
theorem twoF_none (a b : Int) : ∀ (P : List (Int × Int × Int)) (to : Int) (any : Bool), (∀ t ∈ P, qP a b t = false) → twoF a b P to any = (to, any)
  | [], _, _, _ => rfl
  | t :: r, to, any, h => by
    unfold twoF
    rw [h t (by simp), if_neg (by simp)]
    exact twoF_none a b r to any (fun u hu => h u (by simp [hu]))
theorem twoF_is (a b : Int) : ∀ (P : List (Int × Int × Int)), uniqB P = true → (∀ t ∈ P, 0 ≤ t.2.2 ∧ t.2.2 < 4294967296) → twoF a b P 0 false = match P.find? (qP a b) with
    | some t => (t.2.2, true)
    | none => (0, false)
  | [], _, _ => rfl
  | t :: r, hu, hb => by
    unfold uniqB at hu
    rw [Bool.and_eq_true] at hu
    unfold twoF
    rw [List.find?_cons]
    by_cases hq : qP a b t = true
    · rw [if_pos hq, hq]
      have hn : ∀ u ∈ r, qP a b u = false := by
        intro u hur
        have h1 := List.all_eq_true.1 hu.1 u hur
        have h2 := hq
        unfold qP at h2 ⊢
        rw [Bool.and_eq_true, decide_eq_true_eq, decide_eq_true_eq] at h2
        rw [h2.1, h2.2] at h1
        cases hx : (decide (u.1 = a) && decide (u.2.1 = b))
        · rfl
        · rw [hx] at h1; cases h1
      rw [twoF_none a b r _ _ hn, orI_zero _ (hb t (by simp)).1 (hb t (by simp)).2]
    · have hq' : qP a b t = false := by simpa using hq
      rw [if_neg hq, hq']
      exact twoF_is a b r hu.2 (fun u hu => hb u (by simp [hu]))

theorem prs_uniq : uniqB (prs decL) = true := by kernel_rfl
theorem prs_bound : ((prs decL).all fun t => decide (0 ≤ t.2.2) && decide (t.2.2 < 4294967296)) = true := by kernel_rfl
theorem lenL : theL.length = 28 := by kernel_rfl
theorem lenW : theW.length = 30 := by kernel_rfl
theorem lenC : theC.length = 47 := by kernel_rfl

theorem TablesPairs_is (a b : Int) : law08_TablesPairs a b = some true := by
  unfold law08_TablesPairs
  have hP := Pairs_is theR theC decL theL theW theS (by rw [decL_len]; omega)
  have hPl : (prs decL).length ≤ 1000000 := by
    unfold prs
    rw [List.length_map]
    exact Nat.le_trans (List.length_filter_le _ _) (by rw [decL_len]; omega)
  have hT := Two_is (prs decL) hPl a b
  have hQ := Pair_is theR theC decL theL theW theS (by rw [decL_len]; omega) a b
  have hU := twoF_is a b (prs decL) prs_uniq (fun t ht => by
    have := List.all_eq_true.1 prs_bound t ht
    simpa using this)
  have hLo : tables_Tables_Lowers theR theC decL theL theW theS = some (theL, theR, theC, decL, theL, theW, theS) := by
    unfold tables_Tables_Lowers
    rw [clone_is theL (by rw [lenL]; omega) (by rw [lenL]; omega)]
    rfl
  have hWi : tables_Tables_Widths theR theC decL theL theW theS = some (theW, theR, theC, decL, theL, theW, theS) := by
    unfold tables_Tables_Widths
    rw [clone_is theW (by rw [lenW]; omega) (by rw [lenW]; omega)]
    rfl
  have hCl : tables_Tables_Classes theR theC decL theL theW theS = some (theC, theR, theC, decL, theL, theW, theS) := by
    unfold tables_Tables_Classes
    rw [clone2_is theC (by rw [lenC]; omega) (by rw [lenC]; omega)]
    rfl
  obtain ⟨y1, b1, hM1⟩ := map_is a theL (by rw [lenL]; omega)
  obtain ⟨y2, b2, hM2⟩ := map_is a theW (by rw [lenW]; omega)
  obtain ⟨n, hC⟩ := class_is a theC (by rw [lenC]; omega)
  have hRC : ref08_Tables_Class a theR theC decL theL theW theS = some (n, theR, theC, decL, theL, theW, theS) := by
    unfold ref08_Tables_Class
    rw [hC]
    rfl
  rw [hU] at hT
  simp only [awake_is, rnew_is, new_is, Option.bind_some, Bool.not_true, Bool.false_eq_true, if_false, hP, hT, hQ]
  cases (prs decL).find? (qP a b) with
  | none => simp only [Option.bind_some, hLo, hM1, hWi, hM2, decide_true, if_true, hCl, hC, hRC]
  | some t => simp only [Option.bind_some, hLo, hM1, hWi, hM2, decide_true, if_true, hCl, hC, hRC]
end Go.Pc
