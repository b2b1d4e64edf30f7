/- Part 27 of the proof of the statement that the last part names; it asks for no condition of its own. Here: PcTM. -/
import Derived.Test.YtgkfbembnlgahaaGreatDoorQaw
import Derived.Test.YtgkfbembnlgahaaGreatDoorQaz
/- The law TablesMerges: true, whatever comes in: pure. -/
set_option linter.unusedVariables false
set_option linter.unusedSimpArgs false
namespace Go.Pc
open Go Go.Sx Go.Tx

/-- Words to look at: of each span its ends, and those beside. -/
def prb (P : List Int) (s : Sp) : List Int :=
  ((P ++ [s.1, s.2]) ++ (if s.1 > 0 then [IntKind.u32.wrap (s.1 - 1)] else [])) ++ (if s.2 < 4294967295 then [IntKind.u32.wrap (s.2 + 1)] else [])
theorem prb_U {P : List Int} {s : Sp} (hP : ∀ p ∈ P, 0 ≤ p ∧ p ≤ Top) (hs : okS s) : ∀ p ∈ prb P s, 0 ≤ p ∧ p ≤ Top := by
  unfold okS Top at *
  intro p hp
  unfold prb at hp
  rcases List.mem_append.1 hp with hp | hp
  · rcases List.mem_append.1 hp with hp | hp
    · rcases List.mem_append.1 hp with hp | hp
      · exact hP p hp
      · simp only [List.mem_cons, List.not_mem_nil, or_false] at hp
        rcases hp with rfl | rfl <;> omega
    · split at hp
      · rw [List.mem_singleton.1 hp, wrap_u32' _ (by omega) (by omega)]
        omega
      · cases hp
  · split at hp
    · rw [List.mem_singleton.1 hp, wrap_u32' _ (by omega) (by omega)]
      omega
    · cases hp
theorem prb_len (P : List Int) (s : Sp) : (prb P s).length ≤ P.length + 4 := by
  unfold prb
  simp only [List.length_append, List.length_cons, List.length_nil]
  split <;> split <;> simp only [List.length_cons, List.length_nil] <;> omega
theorem ploop (l k m o u S : List Sp) (P0 : List Int) (hS : ∀ s ∈ S, okS s) (hn : S.length ≤ 1000) (h0 : P0.length ≤ 1000) (hP : ∀ p ∈ P0, 0 ≤ p ∧ p ≤ Top) :
    ∃ P, runLoop law08_TablesMerges_b10 ((S.length : Int), (0 : Int), l, k, m, o, u, P0, S) = some (l, k, m, o, u, P) ∧ P.length ≤ 5000 ∧ ∀ p ∈ P, 0 ≤ p ∧ p ≤ Top := by
  obtain ⟨r, hr, P, rfl, h1, h2⟩ := runLoop_inv (b := law08_TablesMerges_b10)
    (fun v => ∃ (i : Nat) (P : List Int), v = ((S.length : Int), (i : Int), l, k, m, o, u, P, S) ∧ i ≤ S.length ∧ P.length ≤ P0.length + 4 * i ∧ ∀ p ∈ P, 0 ≤ p ∧ p ≤ Top) (fun v => ((S.length : Int) - v.2.1).toNat)
    (fun r => ∃ P, r = (l, k, m, o, u, P) ∧ P.length ≤ 5000 ∧ ∀ p ∈ P, 0 ≤ p ∧ p ≤ Top) (by
      rintro v ⟨i, P, rfl, hi, hl, hU⟩
      by_cases hlt : i < S.length
      · left
        have hwi : IntKind.i64.wrap ((i : Int) + 1) = ((i + 1 : Nat) : Int) := by rw [wrap_i64] <;> omega
        have hg := getD_in S i ((0 : Int), (0 : Int)) hlt
        have hs := hS S[i] (List.getElem_mem hlt)
        have hlp := prb_len P S[i]
        refine ⟨((S.length : Int), ((i + 1 : Nat) : Int), l, k, m, o, u, prb P S[i], S), ?_, ⟨i + 1, _, rfl, hlt, by omega, prb_U hU hs⟩, by simp only; omega⟩
        rw [law08_TablesMerges_b10, Int.toNat_natCast, hg, hwi, it1 (by omega), it2 (by omega) (by omega), it1 (by omega), it1 (by simp only [List.length_cons, List.length_nil]; omega)]
        unfold prb
        by_cases c1 : S[i].1 > 0
        · rw [it1 c1, if_pos c1, it1 (by simp only [List.length_append, List.length_cons, List.length_nil]; omega)]
          by_cases c2 : S[i].2 < 4294967295
          · rw [it1 c2, if_pos c2, it1 (by simp only [List.length_append, List.length_cons, List.length_nil]; omega)]
          · rw [it0 c2, if_neg c2, List.append_nil]
        · rw [it0 c1, if_neg c1, List.append_nil]
          by_cases c2 : S[i].2 < 4294967295
          · rw [it1 c2, if_pos c2, it1 (by simp only [List.length_append, List.length_cons, List.length_nil]; omega)]
          · rw [it0 c2, if_neg c2, List.append_nil]
      · right
        exact ⟨(l, k, m, o, u, P), by rw [law08_TablesMerges_b10, it0 (by omega)], P, rfl, by omega, hU⟩)
    ((S.length : Int), ((0 : Nat) : Int), l, k, m, o, u, P0, S) ⟨0, P0, rfl, Nat.zero_le _, by omega, hP⟩
  exact ⟨P, hr, h1, h2⟩
theorem cloop (l k m o u : List Sp) (P : List Int) (hl : l.length ≤ 1000) (hk : k.length ≤ 1000) (hm : m.length ≤ 1000) (ho : o.length ≤ 2000) (hu : u.length ≤ 5000) (hP : P.length ≤ 5000)
    (h1 : ∀ p ∈ P, inB m p = inB l p) (h2 : ∀ p ∈ P, inB o p = (!inB l p && decide (p ≤ 1114111))) (h3 : ∀ p ∈ P, inB u p = (inB l p || inB k p)) :
    runLoop law08_TablesMerges_b19 ((P.length : Int), (0 : Int), l, k, m, o, u, P) = some (.inl (l, k)) := by
  refine runLoop_to (fun i : Nat => i ≤ P.length) (fun i : Nat => ((P.length : Int), (i : Int), l, k, m, o, u, P)) (fun i => P.length - i) _ ?_ 0 (Nat.zero_le _)
  intro i hi
  by_cases hlt : i < P.length
  · left
    refine ⟨i + 1, ?_, hlt, by omega⟩
    have hwi : IntKind.i64.wrap ((i : Int) + 1) = ((i + 1 : Nat) : Int) := by rw [wrap_i64] <;> omega
    have hg := getD_in P i (0 : Int) hlt
    have hp := List.getElem_mem hlt
    have e1 := h1 _ hp
    have e2 := h2 _ hp
    have e3 := h3 _ hp
    rw [law08_TablesMerges_b19, Int.toNat_natCast, hg, hwi, it1 (by omega), it2 (by omega) (by omega), it1 (by omega), In_is _ l (by omega)]
    simp only [Option.bind_some, In2_is _ m (show m.length ≤ 1000000000 by omega), In2_is _ o (show o.length ≤ 1000000000 by omega), In2_is _ u (show u.length ≤ 1000000000 by omega), In_is _ k (show k.length ≤ 1000000000 by omega), e1, e2, e3]
    generalize inB l P[i] = a
    generalize inB k P[i] = b
    generalize decide (P[i] ≤ 1114111) = c
    cases a <;> cases b <;> cases c <;> rfl
  · right
    have hie : i = P.length := by omega
    subst hie
    rw [law08_TablesMerges_b19, it0 (by omega)]
theorem inB_eq {a : List Sp} {q : Int} {b : Bool} (h : InL a q ↔ b = true) : inB a q = b := by
  rw [Bool.eq_iff_iff, inB_iff, h]
theorem TablesMerges_is (l k : List Sp) (x : Int) (hx : 0 ≤ x ∧ x ≤ Top) (hl : ∀ s ∈ l, okS s) (hk : ∀ s ∈ k, okS s) : law08_TablesMerges x l k = some (true, l, k) := by
  unfold law08_TablesMerges
  rw [awake_is]
  simp only [Option.bind_some, Bool.not_true, Bool.false_eq_true, if_false]
  by_cases c1 : ((l.length : Nat) : Int) > 40
  · rw [it1 c1]
  · rw [it0 c1]
    by_cases c2 : ((k.length : Nat) : Int) > 40
    · rw [it1 c2]
    · rw [it0 c2]
      obtain ⟨o, ho, hoM, hoI, hok, hol⟩ := Outside_is hl (by omega)
      have hlk : ∀ s ∈ l ++ k, okS s := fun s hs => (List.mem_append.1 hs).elim (hl s) (hk s)
      have hm1 := mrg_len l
      have hm2 := mrg_len (l ++ k)
      rw [List.length_append] at hm2
      rw [Merge_is hl (by omega)]
      simp only [Option.bind_some]
      rw [ho]
      simp only [Option.bind_some]
      rw [Union_is hl hk (by omega)]
      simp only [Option.bind_some]
      rw [Merged_is (mrg_MF hl) (fun s hs => (mrg_ok hl s hs).1) (by omega)]
      simp only [Option.bind_some, Bool.not_true, Bool.false_eq_true, if_false]
      rw [Merged_is hoM hok (by omega)]
      simp only [Option.bind_some, Bool.not_true, Bool.false_eq_true, if_false]
      rw [Merged_is (mrg_MF hlk) (fun s hs => (mrg_ok hlk s hs).1) (by omega)]
      simp only [Option.bind_some, Bool.not_true, Bool.false_eq_true, if_false, List.nil_append]
      rw [it1 (by omega), it1 (by omega)]
      obtain ⟨P, hP, hPl, hPU⟩ := ploop l k (mrg l) o (mrg (l ++ k)) (l ++ k) [x, 0, 1114111, 1114112, 4294967295] hlk (by rw [List.length_append]; omega) (by simp) (fun p hp => by
        simp only [List.mem_cons, List.not_mem_nil, or_false] at hp
        unfold Top at *
        omega)
      rw [hP]
      simp only [Option.bind_some]
      rw [cloop l k (mrg l) o (mrg (l ++ k)) P (by omega) (by omega) (by omega) (by omega) (by omega) hPl
        (fun p hp => inB_eq (by rw [mrg_in hl p (hPU p hp).2, inB_iff]))
        (fun p hp => inB_eq (by rw [hoI p (hPU p hp).1 (hPU p hp).2, ← inB_iff]; unfold Lst; simp))
        (fun p hp => inB_eq (by rw [mrg_in hlk p (hPU p hp).2, InL_append, ← inB_iff, ← inB_iff]; simp))]
      rfl
end Go.Pc
