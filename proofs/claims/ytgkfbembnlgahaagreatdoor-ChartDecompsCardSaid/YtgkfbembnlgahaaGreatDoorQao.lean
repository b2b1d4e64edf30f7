/- Part 15 of the proof of the statement that the last part names; it asks for no condition of its own. Here: PcL7, TxRun. -/
import Derived.Test.YtgkfbembnlgahaaGreatDoorQai
import Derived.Test.YtgkfbembnlgahaaGreatDoorQan
import Derived.Test.YtgkfbembnlgahaaGreatDoorQag
/- The laws of the charts: true, whatever comes in (law 07's awake taken as it should be): pure. -/
set_option linter.unusedVariables false
set_option linter.unusedSimpArgs false
set_option maxRecDepth 100000
namespace Go.Pc
open Go Go.Sx Go.Tx

theorem readR_pos {T : Type} {one : List ByteArray → List T → Option T} : ∀ (L : List (List ByteArray)) (acc : List T) (i k : Nat), readR one L acc i = .inr k → 0 < k
  | [], acc, i, k, h => by cases h
  | w :: r, acc, i, k, h => by
    unfold readR at h
    cases ho : one w acc with
    | none => rw [ho] at h; cases h; omega
    | some x => rw [ho] at h; exact readR_pos r _ _ k h
theorem readR_len {T : Type} {one : List ByteArray → List T → Option T} : ∀ (L : List (List ByteArray)) (acc : List T) (i : Nat) (l : List T), readR one L acc i = .inl l → l.length = acc.length + L.length
  | [], acc, i, l, h => by cases h; simp
  | w :: r, acc, i, l, h => by
    unfold readR at h
    cases ho : one w acc with
    | none => rw [ho] at h; cases h
    | some x => rw [ho] at h; rw [readR_len r _ _ l h]; simp; omega
theorem lst_len {T : Type} {one : List ByteArray → List T → Option T} (s : ByteArray) (hs : s.size ≤ 1000000) : (lstR (readR one (linesOf s) [] 0)).length ≤ 1000001 := by
  cases h : readR one (linesOf s) [] 0 with
  | inl l =>
    have := readR_len _ _ _ _ h
    have h2 := lines_len s hs
    show l.length ≤ _
    rw [this]; simp; omega
  | inr k => simp [lstR]
/-- Both read the same: the same line is none, or the same was read. -/
theorem fits_is {T : Type} (r : List T ⊕ Nat) (h : ∀ k, r = .inr k → 0 < k) : ∃ a b c, resR r = (a, b, lstR r) ∧ resB r = (c, lstR r) ∧ law07_fits a b c ((lstR r).length : Int) ((lstR r).length : Int) = some true := by
  cases r with
  | inl l =>
    refine ⟨0, 0, 0, rfl, rfl, ?_⟩
    simp [law07_fits]
  | inr k =>
    have hk := h k rfl
    refine ⟨3, k, k, rfl, rfl, ?_⟩
    have c1 : decide ((k : Int) > 0) = true := decide_eq_true (by omega)
    simp [law07_fits, c1, lstR]
    omega

theorem lbeq (l : List UInt8) : List.beq l l = true := by
  induction l with
  | nil => rfl
  | cons x r ih =>
    show ((x == x) && List.beq r r) = true
    rw [ih]; simp

theorem cl_b12 (l m : List (Int × Int × Int)) (hl : l.length ≤ 1000001) : runLoop law07_ChartClasses_b12 ((l.length : Int), (0 : Int), l, l, m, m) = some (.inr (m, m)) := by
  refine runLoop_to (fun i : Nat => i ≤ l.length) (fun i : Nat => ((l.length : Int), (i : Int), l, l, m, m)) (fun i => l.length - i) _ ?_ 0 (Nat.zero_le _)
  intro i hi
  by_cases hlt : i < l.length
  · left
    refine ⟨i + 1, ?_, hlt, by omega⟩
    have d0 : decide ((i : Int) < (l.length : Int)) = true := decide_eq_true (by omega)
    have d1 : decide ((0 : Int) ≤ (i : Int)) = true := decide_eq_true (by omega)
    have d2 : decide (i < l.length) = true := decide_eq_true hlt
    have hw : IntKind.i64.wrap ((i : Int) + 1) = ((i + 1 : Nat) : Int) := by rw [wrap_i64] <;> omega
    simp only [law07_ChartClasses_b12, d0, d1, d2, Bool.and_self, if_true, Int.toNat_natCast, decide_true, Bool.not_true, Bool.false_eq_true, if_false, hw]
  · right
    have : i = l.length := by omega
    subst this
    have d0 : decide ((l.length : Int) < (l.length : Int)) = false := decide_eq_false (by omega)
    simp only [law07_ChartClasses_b12, d0, Bool.false_eq_true, if_false]
theorem cl_b18 (l : List (Int × Int × Int)) (hl : l.length ≤ 1000001) : runLoop law07_ChartClasses_b18 ((l.length : Int), (0 : Int), l, l) = some (.inr ()) := by
  refine runLoop_to (fun i : Nat => i ≤ l.length) (fun i : Nat => ((l.length : Int), (i : Int), l, l)) (fun i => l.length - i) _ ?_ 0 (Nat.zero_le _)
  intro i hi
  by_cases hlt : i < l.length
  · left
    refine ⟨i + 1, ?_, hlt, by omega⟩
    have d0 : decide ((i : Int) < (l.length : Int)) = true := decide_eq_true (by omega)
    have d1 : decide ((0 : Int) ≤ (i : Int)) = true := decide_eq_true (by omega)
    have d2 : decide (i < l.length) = true := decide_eq_true hlt
    have hw : IntKind.i64.wrap ((i : Int) + 1) = ((i + 1 : Nat) : Int) := by rw [wrap_i64] <;> omega
    simp only [law07_ChartClasses_b18, d0, d1, d2, Bool.and_self, if_true, Int.toNat_natCast, decide_true, Bool.not_true, Bool.false_eq_true, if_false, hw]
  · right
    have : i = l.length := by omega
    subst this
    have d0 : decide ((l.length : Int) < (l.length : Int)) = false := decide_eq_false (by omega)
    simp only [law07_ChartClasses_b18, d0, Bool.false_eq_true, if_false]

theorem ChartClasses_is (s : ByteArray) : law07_ChartClasses s = some true := by
  unfold law07_ChartClasses
  have haw : law07_awake = some true := law07_awake_is
  rw [haw]
  simp only [Option.bind_some, Bool.not_true, Bool.false_eq_true, if_false]
  by_cases h2 : s.size > 2000
  · have c : decide ((s.size : Int) > 2000) = true := decide_eq_true (by omega)
    simp only [c, if_true]
  · have c : decide ((s.size : Int) > 2000) = false := decide_eq_false (by omega)
    have hs : s.size ≤ 1000000 := by omega
    obtain ⟨a1, b1, c1, e1, f1, g1⟩ := fits_is (readR oneW (linesOf s) [] 0) (fun k hk => readR_pos _ _ _ k hk)
    obtain ⟨a2, b2, c2, e2, f2, g2⟩ := fits_is (readR oneRun (linesOf s) [] 0) (fun k hk => readR_pos _ _ _ k hk)
    have p1 := Classes_is s hs
    have p2 := rClasses_is s hs
    have p3 := Runs_is s hs
    have p4 := rRuns_is s hs
    rw [e1] at p1
    rw [f1] at p2
    rw [e2] at p3
    rw [f2] at p4
    have l1 := lst_len (one := oneW) s hs
    have l2 := lst_len (one := oneRun) s hs
    simp only [c, Bool.false_eq_true, if_false, p1, p2, p3, p4, Option.bind_some, g1, g2, Bool.not_true, cl_b12 _ _ l1, cl_b18 _ l2]

theorem rg_b12 (l : List (Int × Int × ByteArray × ByteArray × ByteArray × Bool)) (m : List (ByteArray × Int × Int)) (hl : l.length ≤ 1000001) : runLoop law07_ChartRanges_b12 ((l.length : Int), (0 : Int), l, l, m, m) = some (.inr (m, m)) := by
  refine runLoop_to (fun i : Nat => i ≤ l.length) (fun i : Nat => ((l.length : Int), (i : Int), l, l, m, m)) (fun i => l.length - i) _ ?_ 0 (Nat.zero_le _)
  intro i hi
  by_cases hlt : i < l.length
  · left
    refine ⟨i + 1, ?_, hlt, by omega⟩
    have d0 : decide ((i : Int) < (l.length : Int)) = true := decide_eq_true (by omega)
    have d1 : decide ((0 : Int) ≤ (i : Int)) = true := decide_eq_true (by omega)
    have d2 : decide (i < l.length) = true := decide_eq_true hlt
    have hw : IntKind.i64.wrap ((i : Int) + 1) = ((i + 1 : Nat) : Int) := by rw [wrap_i64] <;> omega
    simp only [law07_ChartRanges_b12, d0, d1, d2, Bool.and_self, if_true, Int.toNat_natCast, lbeq, decide_true, Bool.not_true, Bool.false_eq_true, if_false, hw]
  · right
    have : i = l.length := by omega
    subst this
    have d0 : decide ((l.length : Int) < (l.length : Int)) = false := decide_eq_false (by omega)
    simp only [law07_ChartRanges_b12, d0, Bool.false_eq_true, if_false]
theorem rg_b18 (l : List (ByteArray × Int × Int)) (hl : l.length ≤ 1000001) : runLoop law07_ChartRanges_b18 ((l.length : Int), (0 : Int), l, l) = some (.inr ()) := by
  refine runLoop_to (fun i : Nat => i ≤ l.length) (fun i : Nat => ((l.length : Int), (i : Int), l, l)) (fun i => l.length - i) _ ?_ 0 (Nat.zero_le _)
  intro i hi
  by_cases hlt : i < l.length
  · left
    refine ⟨i + 1, ?_, hlt, by omega⟩
    have d0 : decide ((i : Int) < (l.length : Int)) = true := decide_eq_true (by omega)
    have d1 : decide ((0 : Int) ≤ (i : Int)) = true := decide_eq_true (by omega)
    have d2 : decide (i < l.length) = true := decide_eq_true hlt
    have hw : IntKind.i64.wrap ((i : Int) + 1) = ((i + 1 : Nat) : Int) := by rw [wrap_i64] <;> omega
    simp only [law07_ChartRanges_b18, d0, d1, d2, Bool.and_self, if_true, Int.toNat_natCast, lbeq, decide_true, Bool.not_true, Bool.false_eq_true, if_false, hw]
  · right
    have : i = l.length := by omega
    subst this
    have d0 : decide ((l.length : Int) < (l.length : Int)) = false := decide_eq_false (by omega)
    simp only [law07_ChartRanges_b18, d0, Bool.false_eq_true, if_false]
theorem ChartRanges_is (s : ByteArray) : law07_ChartRanges s = some true := by
  unfold law07_ChartRanges
  have haw : law07_awake = some true := law07_awake_is
  rw [haw]
  simp only [Option.bind_some, Bool.not_true, Bool.false_eq_true, if_false]
  by_cases h2 : s.size > 2000
  · have c : decide ((s.size : Int) > 2000) = true := decide_eq_true (by omega)
    simp only [c, if_true]
  · have c : decide ((s.size : Int) > 2000) = false := decide_eq_false (by omega)
    have hs : s.size ≤ 1000000 := by omega
    obtain ⟨a1, b1, c1, e1, f1, g1⟩ := fits_is (readR oneRange (linesOf s) [] 0) (fun k hk => readR_pos _ _ _ k hk)
    obtain ⟨a2, b2, c2, e2, f2, g2⟩ := fits_is (readR oneNamed (linesOf s) [] 0) (fun k hk => readR_pos _ _ _ k hk)
    have p1 := Ranges_is s hs
    have p2 := rRanges_is s hs
    have p3 := Sets_is s hs
    have p4 := rSets_is s hs
    rw [e1] at p1
    rw [f1] at p2
    rw [e2] at p3
    rw [f2] at p4
    have l1 := lst_len (one := oneRange) s hs
    have l2 := lst_len (one := oneNamed) s hs
    simp only [c, Bool.false_eq_true, if_false, p1, p2, p3, p4, Option.bind_some, g1, g2, Bool.not_true, rg_b12 _ _ l1, rg_b18 _ l2]

theorem same_is (l : List Int) (hl : l.length ≤ 9223372036854775806) : law07_same l l = some (true, l, l) := by
  unfold law07_same
  have c : (((l.length : Nat) : Int) != ((l.length : Nat) : Int)) = false := bne_self_eq_false _
  have key : runLoop law07_same_b4 ((l.length : Int), (0 : Int), l, l) = some (.inr (l, l)) := by
    refine runLoop_to (fun i : Nat => i ≤ l.length) (fun i : Nat => ((l.length : Int), (i : Int), l, l)) (fun i => l.length - i) _ ?_ 0 (Nat.zero_le _)
    intro i hi
    by_cases hlt : i < l.length
    · left
      refine ⟨i + 1, ?_, hlt, by omega⟩
      have d0 : decide ((i : Int) < (l.length : Int)) = true := decide_eq_true (by omega)
      have d1 : decide ((0 : Int) ≤ (i : Int)) = true := decide_eq_true (by omega)
      have d2 : decide (i < l.length) = true := decide_eq_true hlt
      have hw : IntKind.i64.wrap ((i : Int) + 1) = ((i + 1 : Nat) : Int) := by rw [wrap_i64] <;> omega
      simp only [law07_same_b4, d0, d1, d2, Bool.and_self, if_true, Int.toNat_natCast, bne_self_eq_false, Bool.false_eq_true, if_false, hw]
    · right
      have : i = l.length := by omega
      subst this
      have d0 : decide ((l.length : Int) < (l.length : Int)) = false := decide_eq_false (by omega)
      simp only [law07_same_b4, d0, Bool.false_eq_true, if_false]
  simp only [c, Bool.false_eq_true, if_false, key, Option.bind_some]
theorem readD_to : ∀ (L : List (List ByteArray)) (acc : List (Int × List Int × Bool × Bool)) (i : Nat) (l : List (Int × List Int × Bool × Bool)), (∀ d ∈ acc, d.2.1.length ≤ 3) → readR oneDecomp L acc i = .inl l → ∀ d ∈ l, d.2.1.length ≤ 3
  | [], acc, i, l, ha, h => by cases h; exact ha
  | w :: r, acc, i, l, ha, h => by
    unfold readR at h
    cases ho : oneDecomp w acc with
    | none => rw [ho] at h; cases h
    | some x =>
      rw [ho] at h
      refine readD_to r _ _ l ?_ h
      intro d hd
      rcases List.mem_append.1 hd with hd | hd
      · exact ha d hd
      · rw [List.mem_singleton] at hd
        subst hd
        unfold oneDecomp at ho
        split at ho
        · split at ho
          · rename_i hc
            cases ho
            simp only [Bool.and_eq_true, decide_eq_true_eq] at hc
            simp only [List.length_map]
            exact hc.1.2.2
          · cases ho
        · cases ho
theorem lstD_to (s : ByteArray) : ∀ d ∈ lstR (readR oneDecomp (linesOf s) [] 0), d.2.1.length ≤ 3 := by
  cases h : readR oneDecomp (linesOf s) [] 0 with
  | inl l => exact readD_to _ _ _ _ (by simp) h
  | inr k => intro d hd; cases hd
theorem dc_b10 (l : List (Int × List Int × Bool × Bool)) (hl : l.length ≤ 1000001) (ht : ∀ d ∈ l, d.2.1.length ≤ 3) : runLoop law07_ChartDecomps_b10 ((l.length : Int), (0 : Int), l, l) = some (.inr ()) := by
  refine runLoop_to (fun i : Nat => i ≤ l.length) (fun i : Nat => ((l.length : Int), (i : Int), l, l)) (fun i => l.length - i) _ ?_ 0 (Nat.zero_le _)
  intro i hi
  by_cases hlt : i < l.length
  · left
    refine ⟨i + 1, ?_, hlt, by omega⟩
    have d0 : decide ((i : Int) < (l.length : Int)) = true := decide_eq_true (by omega)
    have d1 : decide ((0 : Int) ≤ (i : Int)) = true := decide_eq_true (by omega)
    have d2 : decide (i < l.length) = true := decide_eq_true hlt
    have hw : IntKind.i64.wrap ((i : Int) + 1) = ((i + 1 : Nat) : Int) := by rw [wrap_i64] <;> omega
    have hg : l.getD i ((0 : Int), ([], (false, false))) = l[i] := by simp [List.getD, List.getElem?_eq_getElem hlt]
    have hsm := same_is l[i].2.1 (by have := ht _ (List.getElem_mem hlt); omega)
    simp only [law07_ChartDecomps_b10, d0, d1, d2, Bool.and_self, if_true, Int.toNat_natCast, hg, bne_self_eq_false, decide_true, Bool.not_true, Bool.false_eq_true, if_false, hsm, Option.bind_some, hw]
  · right
    have : i = l.length := by omega
    subst this
    have d0 : decide ((l.length : Int) < (l.length : Int)) = false := decide_eq_false (by omega)
    simp only [law07_ChartDecomps_b10, d0, Bool.false_eq_true, if_false]
theorem ChartDecomps_is (s : ByteArray) : law07_ChartDecomps s = some true := by
  unfold law07_ChartDecomps
  have haw : law07_awake = some true := law07_awake_is
  rw [haw]
  simp only [Option.bind_some, Bool.not_true, Bool.false_eq_true, if_false]
  by_cases h2 : s.size > 2000
  · have c : decide ((s.size : Int) > 2000) = true := decide_eq_true (by omega)
    simp only [c, if_true]
  · have c : decide ((s.size : Int) > 2000) = false := decide_eq_false (by omega)
    have hs : s.size ≤ 1000000 := by omega
    obtain ⟨a1, b1, c1, e1, f1, g1⟩ := fits_is (readR oneDecomp (linesOf s) [] 0) (fun k hk => readR_pos _ _ _ k hk)
    have p1 := Decomps_is s hs
    have p2 := rDecomps_is s hs
    rw [e1] at p1
    rw [f1] at p2
    have l1 := lst_len (one := oneDecomp) s hs
    simp only [c, Bool.false_eq_true, if_false, p1, p2, Option.bind_some, g1, Bool.not_true, dc_b10 _ l1 (lstD_to s)]
end Go.Pc

/- From a contract to a call: arguments that are plain values, a plain value as the result. -/
set_option linter.unusedVariables false
namespace Go.Sx
open Go

theorem HRel.start (w : World) : HRel (fun _ => False) (fun k => k < w.heap.size) (fun _ _ => none) (fun _ _ => False) (findE []) w where
  ent b e h := by cases h
  non b h k hk := hk
  dom b u h := absurd rfl h
  one b u x h := by cases h
  disj b b' k h _ := h.elim
  ro b k h := h.elim
  rofr k h := ⟨fun h => h, h⟩
  fr k h := h.elim

theorem calls_simple {P : Program} {gl : Glob} {f : FuncId} {S : TSum} {args : List SVal} {vals : Array Value} {v : Vars S.pat.vars} {o : S.O} {val : Value} {w : World} (hV : ValidS P gl f S)
    (hu : unCall S.pat args [] = some v) (hF : S.F v = some o) (hr : S.res o = (.v val, [])) (hd : ∀ ρ, DL ρ args vals.toList) (hg : GLw gl w) :
    Calls P f vals w fun e w' => e = .returned val ∧ Go.RowKit.Below w.heap.size w w' := by
  have h := hV args [] v o hu hF (fun _ => False) (fun k => k < w.heap.size) (fun _ _ => none) (fun _ _ => False) w vals
    (fun g o hgo => by
      have h1 := hg g o hgo
      refine ⟨.inl ?_, h1⟩
      exact (Array.getElem?_eq_some_iff.1 h1).1)
    (HRel.start w) (fun b u hb => absurd rfl hb) (fun b => by simp [eraH, findE]) (hd _)
  refine h.mono ?_
  rintro e w' ⟨x, ρ', own', RO', he, _, hD, _, _, ha⟩
  rw [hr] at hD
  refine ⟨by rw [he]; exact congrArg _ hD, ha.os, ha.tape, ha.output, ha.size, fun k hk => ha.block k (.inl hk)⟩
end Go.Sx
