/- Part 15 of the proof of the statement that the last part names; it asks for no condition of its own. Here: PcL7, PcL7b, TxRun. -/
import Derived.Test.YtgkfbembnlgahaaGreatDoorQai
import Derived.Test.YtgkfbembnlgahaaGreatDoorQan
import Derived.Test.YtgkfbembnlgahaaGreatDoorQag
/- The laws of the charts: true, whatever comes in (law 07's awake taken as it should be): pure. -/
set_option linter.unusedVariables false
set_option linter.unusedSimpArgs false
set_option maxRecDepth 100000
namespace Go.Pc
open Go Go.Sx Go.Tx

theorem readR_pos {T : Type} {one : List ByteArray → List T → Option T} : ∀ (L : List (List ByteArray)) (acc : List T) (i k : Nat), readR one L acc i = .inr k → 0 < k
  | [], acc, i, k, h => by cases h
  | w :: r, acc, i, k, h => by
    unfold readR at h
    cases ho : one w acc with
    | none => rw [ho] at h; cases h; omega
    | some x => rw [ho] at h; exact readR_pos r _ _ k h
theorem readR_len {T : Type} {one : List ByteArray → List T → Option T} : ∀ (L : List (List ByteArray)) (acc : List T) (i : Nat) (l : List T), readR one L acc i = .inl l → l.length = acc.length + L.length
  | [], acc, i, l, h => by cases h; simp
  | w :: r, acc, i, l, h => by
    unfold readR at h
    cases ho : one w acc with
    | none => rw [ho] at h; cases h
    | some x => rw [ho] at h; rw [readR_len r _ _ l h]; simp; omega
theorem lst_len {T : Type} {one : List ByteArray → List T → Option T} (s : ByteArray) (hs : s.size ≤ 1000000) : (lstR (readR one (linesOf s) [] 0)).length ≤ 1000001 := by
  cases h : readR one (linesOf s) [] 0 with
  | inl l =>
    have := readR_len _ _ _ _ h
    have h2 := lines_len s hs
    show l.length ≤ _
    rw [this]; simp; omega
  | inr k => simp [lstR]
/-- Both read the same: the same line is none, or the same was read. -/
theorem fits_is {T : Type} (r : List T ⊕ Nat) (h : ∀ k, r = .inr k → 0 < k) : ∃ a b c, resR r = (a, b, lstR r) ∧ resB r = (c, lstR r) ∧ law07_fits a b c ((lstR r).length : Int) ((lstR r).length : Int) = some true := by
  cases r with
  | inl l =>
    refine ⟨0, 0, 0, rfl, rfl, ?_⟩
    simp [law07_fits]
  | inr k =>
    have hk := h k rfl
    refine ⟨3, k, k, rfl, rfl, ?_⟩
    have c1 : decide ((k : Int) > 0) = true := decide_eq_true (by omega)
    simp [law07_fits, c1, lstR]
    omega

theorem lbeq (l : List UInt8) : List.beq l l = true := by
  induction l with
  | nil => rfl
  | cons x r ih =>
    show ((x == x) && List.beq r r) = true
    rw [ih]; simp

theorem cl_b12 (l m : List (Int × Int × Int)) (hl : l.length ≤ 1000001) : runLoop law07_ChartClasses_b12 ((l.length : Int), (0 : Int), l, l, m, m) = some (.inr (m, m)) := by
  refine runLoop_to (fun i : Nat => i ≤ l.length) (fun i : Nat => ((l.length : Int), (i : Int), l, l, m, m)) (fun i => l.length - i) _ ?_ 0 (Nat.zero_le _)
  intro i hi
  by_cases hlt : i < l.length
  · left
    refine ⟨i + 1, ?_, hlt, by omega⟩
    have d0 : decide ((i : Int) < (l.length : Int)) = true := decide_eq_true (by omega)
    have d1 : decide ((0 : Int) ≤ (i : Int)) = true := decide_eq_true (by omega)
    have d2 : decide (i < l.length) = true := decide_eq_true hlt
    have hw : IntKind.i64.wrap ((i : Int) + 1) = ((i + 1 : Nat) : Int) := by rw [wrap_i64] <;> omega
    simp only [law07_ChartClasses_b12, d0, d1, d2, Bool.and_self, if_true, Int.toNat_natCast, decide_true, Bool.not_true, Bool.false_eq_true, if_false, hw]
  · right
    have : i = l.length := by omega
    subst this
    have d0 : decide ((l.length : Int) < (l.length : Int)) = false := decide_eq_false (by omega)
    simp only [law07_ChartClasses_b12, d0, Bool.false_eq_true, if_false]
theorem cl_b18 (l : List (Int × Int × Int)) (hl : l.length ≤ 1000001) : runLoop law07_ChartClasses_b18 ((l.length : Int), (0 : Int), l, l) = some (.inr ()) := by
  refine runLoop_to (fun i : Nat => i ≤ l.length) (fun i : Nat => ((l.length : Int), (i : Int), l, l)) (fun i => l.length - i) _ ?_ 0 (Nat.zero_le _)
  intro i hi
  by_cases hlt : i < l.length
  · left
    refine ⟨i + 1, ?_, hlt, by omega⟩
    have d0 : decide ((i : Int) < (l.length : Int)) = true := decide_eq_true (by omega)
    have d1 : decide ((0 : Int) ≤ (i : Int)) = true := decide_eq_true (by omega)
    have d2 : decide (i < l.length) = true := decide_eq_true hlt
    have hw : IntKind.i64.wrap ((i : Int) + 1) = ((i + 1 : Nat) : Int) := by rw [wrap_i64] <;> omega
    simp only [law07_ChartClasses_b18, d0, d1, d2, Bool.and_self, if_true, Int.toNat_natCast, decide_true, Bool.not_true, Bool.false_eq_true, if_false, hw]
  · right
    have : i = l.length := by omega
    subst this
    have d0 : decide ((l.length : Int) < (l.length : Int)) = false := decide_eq_false (by omega)
    simp only [law07_ChartClasses_b18, d0, Bool.false_eq_true, if_false]

theorem ChartClasses_is (s : ByteArray) : law07_ChartClasses s = some true := by
  unfold law07_ChartClasses
  have haw : law07_awake = some true := law07_awake_is
  rw [haw]
  simp only [Option.bind_some, Bool.not_true, Bool.false_eq_true, if_false]
  by_cases h2 : s.size > 2000
  · have c : decide ((s.size : Int) > 2000) = true := decide_eq_true (by omega)
    simp only [c, if_true]
  · have c : decide ((s.size : Int) > 2000) = false := decide_eq_false (by omega)
    have hs : s.size ≤ 1000000 := by omega
    obtain ⟨a1, b1, c1, e1, f1, g1⟩ := fits_is (readR oneW (linesOf s) [] 0) (fun k hk => readR_pos _ _ _ k hk)
    obtain ⟨a2, b2, c2, e2, f2, g2⟩ := fits_is (readR oneRun (linesOf s) [] 0) (fun k hk => readR_pos _ _ _ k hk)
    have p1 := Classes_is s hs
    have p2 := rClasses_is s hs
    have p3 := Runs_is s hs
    have p4 := rRuns_is s hs
    rw [e1] at p1
    rw [f1] at p2
    rw [e2] at p3
    rw [f2] at p4
    have l1 := lst_len (one := oneW) s hs
    have l2 := lst_len (one := oneRun) s hs
    simp only [c, Bool.false_eq_true, if_false, p1, p2, p3, p4, Option.bind_some, g1, g2, Bool.not_true, cl_b12 _ _ l1, cl_b18 _ l2]

theorem rg_b12 (l : List (Int × Int × ByteArray × ByteArray × ByteArray × Bool)) (m : List (ByteArray × Int × Int)) (hl : l.length ≤ 1000001) : runLoop law07_ChartRanges_b12 ((l.length : Int), (0 : Int), l, l, m, m) = some (.inr (m, m)) := by
  refine runLoop_to (fun i : Nat => i ≤ l.length) (fun i : Nat => ((l.length : Int), (i : Int), l, l, m, m)) (fun i => l.length - i) _ ?_ 0 (Nat.zero_le _)
  intro i hi
  by_cases hlt : i < l.length
  · left
    refine ⟨i + 1, ?_, hlt, by omega⟩
    have d0 : decide ((i : Int) < (l.length : Int)) = true := decide_eq_true (by omega)
    have d1 : decide ((0 : Int) ≤ (i : Int)) = true := decide_eq_true (by omega)
    have d2 : decide (i < l.length) = true := decide_eq_true hlt
    have hw : IntKind.i64.wrap ((i : Int) + 1) = ((i + 1 : Nat) : Int) := by rw [wrap_i64] <;> omega
    simp only [law07_ChartRanges_b12, d0, d1, d2, Bool.and_self, if_true, Int.toNat_natCast, lbeq, decide_true, Bool.not_true, Bool.false_eq_true, if_false, hw]
  · right
    have : i = l.length := by omega
    subst this
    have d0 : decide ((l.length : Int) < (l.length : Int)) = false := decide_eq_false (by omega)
    simp only [law07_ChartRanges_b12, d0, Bool.false_eq_true, if_false]
theorem rg_b18 (l : List (ByteArray × Int × Int)) (hl : l.length ≤ 1000001) : runLoop law07_ChartRanges_b18 ((l.length : Int), (0 : Int), l, l) = some (.inr ()) := by
  refine runLoop_to (fun i : Nat => i ≤ l.length) (fun i : Nat => ((l.length : Int), (i : Int), l, l)) (fun i => l.length - i) _ ?_ 0 (Nat.zero_le _)
  intro i hi
  by_cases hlt : i < l.length
  · left
    refine ⟨i + 1, ?_, hlt, by omega⟩
    have d0 : decide ((i : Int) < (l.length : Int)) = true := decide_eq_true (by omega)
    have d1 : decide ((0 : Int) ≤ (i : Int)) = true := decide_eq_true (by omega)
    have d2 : decide (i < l.length) = true := decide_eq_true hlt
    have hw : IntKind.i64.wrap ((i : Int) + 1) = ((i + 1 : Nat) : Int) := by rw [wrap_i64] <;> omega
    simp only [law07_ChartRanges_b18, d0, d1, d2, Bool.and_self, if_true, Int.toNat_natCast, lbeq, decide_true, Bool.not_true, Bool.false_eq_true, if_false, hw]
  · right
    have : i = l.length := by omega
    subst this
    have d0 : decide ((l.length : Int) < (l.length : Int)) = false := decide_eq_false (by omega)
    simp only [law07_ChartRanges_b18, d0, Bool.false_eq_true, if_false]
theorem ChartRanges_is (s : ByteArray) : law07_ChartRanges s = some true := by
  unfold law07_ChartRanges
  have haw : law07_awake = some true := law07_awake_is
  rw [haw]
  simp only [Option.bind_some, Bool.not_true, Bool.false_eq_true, if_false]
  by_cases h2 : s.size > 2000
  · have c : decide ((s.size : Int) > 2000) = true := decide_eq_true (by omega)
    simp only [c, if_true]
  · have c : decide ((s.size : Int) > 2000) = false := decide_eq_false (by omega)
    have hs : s.size ≤ 1000000 := by omega
    obtain ⟨a1, b1, c1, e1, f1, g1⟩ := fits_is (readR oneRange (linesOf s) [] 0) (fun k hk => readR_pos _ _ _ k hk)
    obtain ⟨a2, b2, c2, e2, f2, g2⟩ := fits_is (readR oneNamed (linesOf s) [] 0) (fun k hk => readR_pos _ _ _ k hk)
    have p1 := Ranges_is s hs
    have p2 := rRanges_is s hs
    have p3 := Sets_is s hs
    have p4 := rSets_is s hs
    rw [e1] at p1
    rw [f1] at p2
    rw [e2] at p3
    rw [f2] at p4
    have l1 := lst_len (one := oneRange) s hs
    have l2 := lst_len (one := oneNamed) s hs
    simp only [c, Bool.false_eq_true, if_false, p1, p2, p3, p4, Option.bind_some, g1, g2, Bool.not_true, rg_b12 _ _ l1, rg_b18 _ l2]

theorem same_is (l : List Int) (hl : l.length ≤ 9223372036854775806) : law07_same l l = some (true, l, l) := by
  unfold law07_same
  have c : (((l.length : Nat) : Int) != ((l.length : Nat) : Int)) = false := bne_self_eq_false _
  have key : runLoop law07_same_b4 ((l.length : Int), (0 : Int), l, l) = some (.inr (l, l)) := by
    refine runLoop_to (fun i : Nat => i ≤ l.length) (fun i : Nat => ((l.length : Int), (i : Int), l, l)) (fun i => l.length - i) _ ?_ 0 (Nat.zero_le _)
    intro i hi
    by_cases hlt : i < l.length
    · left
      refine ⟨i + 1, ?_, hlt, by omega⟩
      have d0 : decide ((i : Int) < (l.length : Int)) = true := decide_eq_true (by omega)
      have d1 : decide ((0 : Int) ≤ (i : Int)) = true := decide_eq_true (by omega)
      have d2 : decide (i < l.length) = true := decide_eq_true hlt
      have hw : IntKind.i64.wrap ((i : Int) + 1) = ((i + 1 : Nat) : Int) := by rw [wrap_i64] <;> omega
      simp only [law07_same_b4, d0, d1, d2, Bool.and_self, if_true, Int.toNat_natCast, bne_self_eq_false, Bool.false_eq_true, if_false, hw]
    · right
      have : i = l.length := by omega
      subst this
      have d0 : decide ((l.length : Int) < (l.length : Int)) = false := decide_eq_false (by omega)
      simp only [law07_same_b4, d0, Bool.false_eq_true, if_false]
  simp only [c, Bool.false_eq_true, if_false, key, Option.bind_some]
theorem readD_to : ∀ (L : List (List ByteArray)) (acc : List (Int × List Int × Bool × Bool)) (i : Nat) (l : List (Int × List Int × Bool × Bool)), (∀ d ∈ acc, d.2.1.length ≤ 3) → readR oneDecomp L acc i = .inl l → ∀ d ∈ l, d.2.1.length ≤ 3
  | [], acc, i, l, ha, h => by cases h; exact ha
  | w :: r, acc, i, l, ha, h => by
    unfold readR at h
    cases ho : oneDecomp w acc with
    | none => rw [ho] at h; cases h
    | some x =>
      rw [ho] at h
      refine readD_to r _ _ l ?_ h
      intro d hd
      rcases List.mem_append.1 hd with hd | hd
      · exact ha d hd
      · rw [List.mem_singleton] at hd
        subst hd
        unfold oneDecomp at ho
        split at ho
        · split at ho
          · rename_i hc
            cases ho
            simp only [Bool.and_eq_true, decide_eq_true_eq] at hc
            simp only [List.length_map]
            exact hc.1.2.2
          · cases ho
        · cases ho
theorem lstD_to (s : ByteArray) : ∀ d ∈ lstR (readR oneDecomp (linesOf s) [] 0), d.2.1.length ≤ 3 := by
  cases h : readR oneDecomp (linesOf s) [] 0 with
  | inl l => exact readD_to _ _ _ _ (by simp) h
  | inr k => intro d hd; cases hd
theorem dc_b10 (l : List (Int × List Int × Bool × Bool)) (hl : l.length ≤ 1000001) (ht : ∀ d ∈ l, d.2.1.length ≤ 3) : runLoop law07_ChartDecomps_b10 ((l.length : Int), (0 : Int), l, l) = some (.inr ()) := by
  refine runLoop_to (fun i : Nat => i ≤ l.length) (fun i : Nat => ((l.length : Int), (i : Int), l, l)) (fun i => l.length - i) _ ?_ 0 (Nat.zero_le _)
  intro i hi
  by_cases hlt : i < l.length
  · left
    refine ⟨i + 1, ?_, hlt, by omega⟩
    have d0 : decide ((i : Int) < (l.length : Int)) = true := decide_eq_true (by omega)
    have d1 : decide ((0 : Int) ≤ (i : Int)) = true := decide_eq_true (by omega)
    have d2 : decide (i < l.length) = true := decide_eq_true hlt
    have hw : IntKind.i64.wrap ((i : Int) + 1) = ((i + 1 : Nat) : Int) := by rw [wrap_i64] <;> omega
    have hg : l.getD i ((0 : Int), ([], (false, false))) = l[i] := by simp [List.getD, List.getElem?_eq_getElem hlt]
    have hsm := same_is l[i].2.1 (by have := ht _ (List.getElem_mem hlt); omega)
    simp only [law07_ChartDecomps_b10, d0, d1, d2, Bool.and_self, if_true, Int.toNat_natCast, hg, bne_self_eq_false, decide_true, Bool.not_true, Bool.false_eq_true, if_false, hsm, Option.bind_some, hw]
  · right
    have : i = l.length := by omega
    subst this
    have d0 : decide ((l.length : Int) < (l.length : Int)) = false := decide_eq_false (by omega)
    simp only [law07_ChartDecomps_b10, d0, Bool.false_eq_true, if_false]
theorem ChartDecomps_is (s : ByteArray) : law07_ChartDecomps s = some true := by
  unfold law07_ChartDecomps
  have haw : law07_awake = some true := law07_awake_is
  rw [haw]
  simp only [Option.bind_some, Bool.not_true, Bool.false_eq_true, if_false]
  by_cases h2 : s.size > 2000
  · have c : decide ((s.size : Int) > 2000) = true := decide_eq_true (by omega)
    simp only [c, if_true]
  · have c : decide ((s.size : Int) > 2000) = false := decide_eq_false (by omega)
    have hs : s.size ≤ 1000000 := by omega
    obtain ⟨a1, b1, c1, e1, f1, g1⟩ := fits_is (readR oneDecomp (linesOf s) [] 0) (fun k hk => readR_pos _ _ _ k hk)
    have p1 := Decomps_is s hs
    have p2 := rDecomps_is s hs
    rw [e1] at p1
    rw [f1] at p2
    have l1 := lst_len (one := oneDecomp) s hs
    simp only [c, Bool.false_eq_true, if_false, p1, p2, Option.bind_some, g1, Bool.not_true, dc_b10 _ l1 (lstD_to s)]
end Go.Pc

/- The law ChartGiven: true, whatever comes in (law 07's awake taken as it should be): pure. -/
set_option linter.unusedVariables false
set_option linter.unusedSimpArgs false
set_option maxRecDepth 100000
set_option maxHeartbeats 0
namespace Go.Pc
open Go Go.Sx Go.Tx

def oneRangeP (w : List ByteArray) (e : Option Int) : Option (Int × Int × ByteArray × ByteArray × ByteArray × Bool) := match w with
  | [a, b, c, d, g, f] => if (spanOK a b && behindI e (ptN a)) && catOK c && (decide (1 ≤ d.size) && decide (d.size ≤ 3) && allIn capsB d) && (decide (1 ≤ g.size) && decide (g.size ≤ 1) && allIn joinsB g) && newOK f then
      some ((ptN a : Int), (ptN b : Int), c, d, g, isB f [110, 101, 119]) else none
  | _ => none
theorem oneRangeP_eq (w : List ByteArray) (l : List (Int × Int × ByteArray × ByteArray × ByteArray × Bool)) : oneRange w l = oneRangeP w (l.getLast?.map (fun e => e.2.1)) := by
  rcases w with _ | ⟨a, _ | ⟨b, _ | ⟨c, _ | ⟨d, _ | ⟨e, _ | ⟨f, _ | ⟨g, r⟩⟩⟩⟩⟩⟩⟩ <;> rfl
def rangesB (r : List (Int × Int × ByteArray × ByteArray × ByteArray × Bool) ⊕ Nat) : Bool := match r with
  | .inl l => Nat.beq l.length 381 && l.all (fun x => decide (x.1 ≤ x.2.1))
  | .inr _ => false
theorem rangesB_is : rangesB (readP oneRangeP (fun e => e.2.1) (linesOf txR) none 0) = true := by kernel_rfl
theorem theR_facts : readR oneRange (linesOf txR) [] 0 = .inl theR ∧ theR.length = 381 ∧ ∀ x ∈ theR, x.1 ≤ x.2.1 := by
  have h := rangesB_is
  cases hp : readP oneRangeP (fun e => e.2.1) (linesOf txR) none 0 with
  | inr k => rw [hp] at h; cases h
  | inl l =>
    rw [hp] at h
    have hr : readR oneRange (linesOf txR) [] 0 = .inl l := readR_of oneRangeP_eq hp
    have ht : theR = l := by unfold theR; rw [hr]; rfl
    rw [ht]
    have h' : (Nat.beq l.length 381 && l.all (fun x => decide (x.1 ≤ x.2.1))) = true := h
    rw [Bool.and_eq_true] at h'
    refine ⟨hr, Nat.eq_of_beq_eq_true h'.1, fun x hx => ?_⟩
    have := List.all_eq_true.1 h'.2 x hx
    simpa using this
theorem lst_inl {T : Type} {r : List T ⊕ Nat} (h : 0 < (lstR r).length) : r = .inl (lstR r) := by
  cases r with
  | inl l => rfl
  | inr k => simp [lstR] at h
theorem lenL7 : theL.length = 28 := by kernel_rfl
theorem lenW7 : theW.length = 30 := by kernel_rfl
theorem lenC7 : theC.length = 47 := by kernel_rfl
theorem lenS : theS.length = 50 := by kernel_rfl
theorem decL_some : (decL.all fun d => decide (1 ≤ d.2.1.length) && decide (d.2.1.length ≤ 3)) = true := by kernel_rfl

theorem ChartGiven_is (n : Int) (h0 : 0 ≤ n) (h1 : n ≤ 65535) : law07_ChartGiven n = some true := by
  unfold law07_ChartGiven
  have haw : law07_awake = some true := law07_awake_is
  rw [haw]
  simp only [Option.bind_some, Bool.not_true, Bool.false_eq_true, if_false]
  obtain ⟨r1, r2, r3⟩ := theR_facts
  have p0 := Ranges_is txR (by rw [szR]; omega)
  have p1 := Classes_is txC (by rw [szC]; omega)
  have p2 := Decomps_is decT (by rw [szD]; omega)
  have p3 := Runs_is txL (by rw [szL]; omega)
  have p4 := Runs_is txW (by rw [szW]; omega)
  have p5 := Sets_is txS (by rw [szS]; omega)
  have q1 : readR oneW (linesOf txC) [] 0 = .inl theC := lst_inl (by show 0 < theC.length; rw [lenC7]; omega)
  have q3 : readR oneRun (linesOf txL) [] 0 = .inl theL := lst_inl (by show 0 < theL.length; rw [lenL7]; omega)
  have q4 : readR oneRun (linesOf txW) [] 0 = .inl theW := lst_inl (by show 0 < theW.length; rw [lenW7]; omega)
  have q5 : readR oneNamed (linesOf txS) [] 0 = .inl theS := lst_inl (by show 0 < theS.length; rw [lenS]; omega)
  rw [r1] at p0
  rw [q1] at p1
  rw [decR_is] at p2
  rw [q3] at p3
  rw [q4] at p4
  rw [q5] at p5
  unfold txR at p0
  unfold txC at p1
  unfold decT at p2
  unfold txL at p3
  unfold txW at p4
  unfold txS at p5
  have hwn : IntKind.i64.wrap n = n := wrap_i64 n (by omega) (by omega)
  have cR : decide (((theR.length : Nat) : Int) < 300) = false := decide_eq_false (by omega)
  have cC : decide (((theC.length : Nat) : Int) < 40) = false := decide_eq_false (by rw [lenC7]; omega)
  have cD : decide (((decL.length : Nat) : Int) < 400) = false := decide_eq_false (by rw [decL_len]; omega)
  have cL : decide (((theL.length : Nat) : Int) < 20) = false := decide_eq_false (by rw [lenL7]; omega)
  have cW : decide (((theW.length : Nat) : Int) < 20) = false := decide_eq_false (by rw [lenW7]; omega)
  have cS : decide (((theS.length : Nat) : Int) < 30) = false := decide_eq_false (by rw [lenS]; omega)
  have z : ((0 : Int) != 0) = false := rfl
  -- the last piece
  have hR0 : 0 < theR.length := by omega
  have hD0 : 0 < decL.length := by rw [decL_len]; omega
  have a1 : 0 ≤ Int.tmod n (theR.length : Int) := Int.tmod_nonneg _ h0
  have a2 : Int.tmod n (theR.length : Int) < (theR.length : Int) := Int.tmod_lt_of_pos _ (by omega)
  have b1 : 0 ≤ Int.tmod n (decL.length : Int) := Int.tmod_nonneg _ h0
  have b2 : Int.tmod n (decL.length : Int) < (decL.length : Int) := Int.tmod_lt_of_pos _ (by omega)
  obtain ⟨i, hi⟩ : ∃ i : Nat, Int.tmod n (theR.length : Int) = i := ⟨(Int.tmod n (theR.length : Int)).toNat, by omega⟩
  obtain ⟨j, hj⟩ : ∃ j : Nat, Int.tmod n (decL.length : Int) = j := ⟨(Int.tmod n (decL.length : Int)).toNat, by omega⟩
  rw [hi] at a2
  rw [hj] at b2
  have hi2 : i < theR.length := by omega
  have hj2 : j < decL.length := by omega
  have gR : theR.getD i ((0 : Int), ((0 : Int), (ByteArray.empty, (ByteArray.empty, (ByteArray.empty, false))))) = theR[i] := by simp [List.getD, List.getElem?_eq_getElem hi2]
  have gD : decL.getD j ((0 : Int), ([], (false, false))) = decL[j] := by rw [List.getD_eq_getElem?_getD, List.getElem?_eq_getElem hj2]; rfl
  have fR := r3 _ (List.getElem_mem hi2)
  have fD := List.all_eq_true.1 decL_some _ (List.getElem_mem hj2)
  rw [Bool.and_eq_true, decide_eq_true_eq, decide_eq_true_eq] at fD
  have last : law07_ChartGiven_c11 (n, theR, decL) = some true := by
    have e0 : decide (((theR.length : Nat) : Int) = 0) = false := decide_eq_false (by omega)
    have e1 : decide (((decL.length : Nat) : Int) = 0) = false := decide_eq_false (by omega)
    have e2 : decide ((0 : Int) ≤ (i : Int)) = true := decide_eq_true (by omega)
    have e3 : decide ((i : Int) < (theR.length : Int)) = true := decide_eq_true (by omega)
    have e4 : decide (i < theR.length) = true := decide_eq_true hi2
    have e5 : decide ((0 : Int) ≤ (j : Int)) = true := decide_eq_true (by omega)
    have e6 : decide ((j : Int) < (decL.length : Int)) = true := decide_eq_true (by omega)
    have e7 : decide (j < decL.length) = true := decide_eq_true hj2
    have e8 : decide (theR[i].1 ≤ theR[i].2.1) = true := decide_eq_true fR
    have e9 : decide (((decL[j].2.1.length : Nat) : Int) ≥ 1) = true := decide_eq_true (by omega)
    have e10 : decide (((decL[j].2.1.length : Nat) : Int) ≤ 3) = true := decide_eq_true (by omega)
    simp only [law07_ChartGiven_c11, e0, e1, Bool.not_false, if_true, hwn, hi, hj, e2, e3, e4, e5, e6, e7, Bool.and_self, Int.toNat_natCast, gR, gD, e8, e9, e10]
  simp only [law07_ChartGiven_c3, p0, p1, p2, p3, p4, p5, Option.bind_some, resR, z, Bool.false_eq_true, if_false, cR, cC, cD, cL, cW, cS, last]
end Go.Pc

/- From a contract to a call: arguments that are plain values, a plain value as the result. -/
set_option linter.unusedVariables false
namespace Go.Sx
open Go

theorem HRel.start (w : World) : HRel (fun _ => False) (fun k => k < w.heap.size) (fun _ _ => none) (fun _ _ => False) (findE []) w where
  ent b e h := by cases h
  non b h k hk := hk
  dom b u h := absurd rfl h
  one b u x h := by cases h
  disj b b' k h _ := h.elim
  ro b k h := h.elim
  rofr k h := ⟨fun h => h, h⟩
  fr k h := h.elim

theorem calls_simple {P : Program} {gl : Glob} {f : FuncId} {S : TSum} {args : List SVal} {vals : Array Value} {v : Vars S.pat.vars} {o : S.O} {val : Value} {w : World} (hV : ValidS P gl f S)
    (hu : unCall S.pat args [] = some v) (hF : S.F v = some o) (hr : S.res o = (.v val, [])) (hd : ∀ ρ, DL ρ args vals.toList) (hg : GLw gl w) :
    Calls P f vals w fun e w' => e = .returned val ∧ Go.RowKit.Below w.heap.size w w' := by
  have h := hV args [] v o hu hF (fun _ => False) (fun k => k < w.heap.size) (fun _ _ => none) (fun _ _ => False) w vals
    (fun g o hgo => by
      have h1 := hg g o hgo
      refine ⟨.inl ?_, h1⟩
      exact (Array.getElem?_eq_some_iff.1 h1).1)
    (HRel.start w) (fun b u hb => absurd rfl hb) (fun b => by simp [eraH, findE]) (hd _)
  refine h.mono ?_
  rintro e w' ⟨x, ρ', own', RO', he, _, hD, _, _, ha⟩
  rw [hr] at hD
  refine ⟨by rw [he]; exact congrArg _ hD, ha.os, ha.tape, ha.output, ha.size, fun k hk => ha.block k (.inl hk)⟩
end Go.Sx
