/- Part 34 of the proof of the statement that the last part names; it asks for no condition of its own. Here: PcSp. -/
import Derived.Test.YtgkfbembnlgahaaGreatDoorQbc
import Derived.Test.YtgkfbembnlgahaaGreatDoorQbf
import Derived.Test.YtgkfbembnlgahaaGreatDoorQbg
import Derived.Test.YtgkfbembnlgahaaGreatDoorQat
set_option linter.unusedVariables false
set_option linter.unusedSimpArgs false
set_option maxRecDepth 100000
set_option maxHeartbeats 0
namespace Go.Pc
open Go Go.Sx Go.Tx
abbrev Rg := Int × Int × ByteArray × ByteArray × ByteArray × Bool
abbrev Nm := ByteArray × Int × Int
theorem readR_inv {T : Type} {one : List ByteArray → List T → Option T} (P : List T → Prop) (hs : ∀ w l x, P l → one w l = some x → P (l ++ [x])) :
    ∀ (L : List (List ByteArray)) (acc : List T) (i : Nat) (l : List T), P acc → readR one L acc i = .inl l → P l
  | [], acc, i, l, h, hr => by
    unfold readR at hr
    cases hr
    exact h
  | w :: r, acc, i, l, h, hr => by
    unfold readR at hr
    cases ho : one w acc with
    | none => rw [ho] at hr; cases hr
    | some x => rw [ho] at hr; exact readR_inv P hs r _ _ l (hs w acc x h ho) hr
theorem lst_inv {T : Type} {one : List ByteArray → List T → Option T} (P : List T → Prop) (h0 : P []) (hs : ∀ w l x, P l → one w l = some x → P (l ++ [x])) (L : List (List ByteArray)) :
    P (lstR (readR one L [] 0)) := by
  cases h : readR one L [] 0 with
  | inl l => exact readR_inv P hs L [] 0 l h0 h
  | inr k => exact h0
theorem readR_len' {T : Type} {one : List ByteArray → List T → Option T} : ∀ (L : List (List ByteArray)) (acc : List T) (i : Nat) (l : List T), readR one L acc i = .inl l → l.length = acc.length + L.length
  | [], acc, i, l, h => by
    unfold readR at h
    cases h
    simp
  | w :: r, acc, i, l, h => by
    unfold readR at h
    cases ho : one w acc with
    | none => rw [ho] at h; cases h
    | some x => rw [ho] at h; rw [readR_len' r _ _ l h]; simp; omega
theorem lst_len' {T : Type} {one : List ByteArray → List T → Option T} (s : ByteArray) : (lstR (readR one (linesOf s) [] 0)).length ≤ s.size + 1 := by
  cases h : readR one (linesOf s) [] 0 with
  | inl l =>
    have h1 := readR_len' _ _ _ _ h
    have h2 := spB_len 10 s
    show l.length ≤ _
    rw [h1]
    unfold linesOf
    split
    · simp
    · simp; exact h2
  | inr k => simp [lstR]

theorem ptN_top {s : ByteArray} (h : ptOK s = true) : ptN s ≤ 1114111 := by
  unfold ptOK at h
  rw [Bool.and_eq_true, decide_eq_true_eq] at h
  unfold ptN
  rw [if_pos h.1]
  exact h.2
theorem spanOK_le {a b : ByteArray} (h : spanOK a b = true) : ptN a ≤ ptN b ∧ ptN b ≤ 1114111 := by
  unfold spanOK at h
  rw [Bool.and_eq_true, Bool.and_eq_true, decide_eq_true_eq] at h
  exact ⟨h.2, ptN_top h.1.2⟩

structure RInv (l : List Rg) : Prop where
  ok : ∀ r ∈ l, 0 ≤ r.1 ∧ r.1 ≤ r.2.1 ∧ r.2.1 ≤ 1114111 ∧ r.2.2.2.2.1.size = 1
  rise : l.Pairwise fun a b => a.2.1 < b.1
theorem RInv.nil : RInv [] := ⟨(fun _ h => by cases h), .nil⟩
theorem RInv.step {w : List ByteArray} {l : List Rg} {x : Rg} (h : RInv l) (ho : oneRange w l = some x) : RInv (l ++ [x]) := by
  unfold oneRange at ho
  split at ho
  · rename_i a b c d e f
    split at ho
    · rename_i hc
      cases ho
      simp only [Bool.and_eq_true, decide_eq_true_eq] at hc
      obtain ⟨⟨⟨⟨⟨hs, hb⟩, _⟩, _⟩, ⟨he1, he2⟩, _⟩, _⟩ := hc
      have h1 := spanOK_le hs
      refine ⟨fun r hr => ?_, List.pairwise_append.2 ⟨h.rise, List.pairwise_singleton _ _, fun r hr s hs' => ?_⟩⟩
      · rcases List.mem_append.1 hr with hr | hr
        · exact h.ok r hr
        · rw [List.mem_singleton.1 hr]
          exact ⟨by simp only; omega, by simp only; omega, by simp only; omega, by simp only; omega⟩
      · rw [List.mem_singleton.1 hs']
        simp only
        rcases last_cases l with rfl | ⟨i, y, rfl⟩
        · cases hr
        · rw [List.getLast?_concat, Option.map_some] at hb
          have hb' : decide (y.2.1 < (ptN a : Int)) = true := hb
          rw [decide_eq_true_eq] at hb'
          rcases List.mem_append.1 hr with hr | hr
          · have h2 := (List.pairwise_append.1 h.rise).2.2 r hr y (by simp)
            have h3 := (h.ok y (by simp)).2.1
            omega
          · rw [List.mem_singleton.1 hr]; exact hb'
    · cases ho
  · cases ho
theorem theR_inv : RInv theR := lst_inv RInv RInv.nil (fun _ _ _ h ho => h.step ho) _
theorem theR_len : theR.length ≤ 10000 := by
  have h := lst_len' (one := oneRange) txR
  rw [szR] at h
  exact Nat.le_trans h (by omega)
theorem theS_len : theS.length ≤ 10000 := by
  have h := lst_len' (one := oneNamed) txS
  rw [szS] at h
  exact Nat.le_trans h (by omega)
def SInv (l : List Nm) : Prop := ∀ r ∈ l, 0 ≤ r.2.1 ∧ r.2.1 ≤ r.2.2 ∧ r.2.2 ≤ 1114111
theorem theS_inv : SInv theS := lst_inv SInv (fun _ h => by cases h) (fun w l x h ho r hr => by
  rcases List.mem_append.1 hr with hr | hr
  · exact h r hr
  · rw [List.mem_singleton.1 hr]
    unfold oneNamed at ho
    split at ho
    · split at ho
      · rename_i hc
        cases ho
        rw [Bool.and_eq_true] at hc
        have h1 := spanOK_le hc.2
        exact ⟨by simp only; omega, by simp only; omega, by simp only; omega⟩
      · cases ho
    · cases ho) _

def hasR (p : Int) (r : Rg) : Bool := decide (r.1 ≤ p) && decide (p ≤ r.2.1)
def hasN (p : Int) (r : Nm) : Bool := decide (r.2.1 ≤ p) && decide (p ≤ r.2.2)
theorem RInv.uniq {l : List Rg} (h : RInv l) {p : Int} {r s : Rg} (hr : r ∈ l) (hs : s ∈ l) (h1 : hasR p r = true) (h2 : hasR p s = true) : r = s := by
  have hrise := h.rise
  have hok := h.ok
  clear h
  unfold hasR at h1 h2
  rw [Bool.and_eq_true, decide_eq_true_eq, decide_eq_true_eq] at h1 h2
  induction l with
  | nil => cases hr
  | cons x l ih =>
    have hp := List.pairwise_cons.1 hrise
    rcases List.mem_cons.1 hr with e1 | hr'
    · rcases List.mem_cons.1 hs with e2 | hs'
      · rw [e1, e2]
      · have := hp.1 s hs'
        rw [e1] at h1
        omega
    · rcases List.mem_cons.1 hs with e2 | hs'
      · have := hp.1 r hr'
        rw [e2] at h2
        omega
      · exact ih hr' hs' hp.2 (fun r hr => hok r (List.mem_cons_of_mem _ hr))
theorem inB_congr {a : List Sp} {p : Int} {b : Bool} (h : InL a p ↔ b = true) : inB a p = b := by
  cases hb : inB a p with
  | true => exact (h.1 ((inB_iff a p).1 hb)).symm
  | false =>
    cases b with
    | false => rfl
    | true => exact absurd ((inB_iff a p).2 (h.2 rfl)) (by rw [hb]; simp)
def spR (l : List Rg) (q : Rg → Bool) : List Sp := (l.filter q).map fun r => (r.1, r.2.1)
theorem spR_ok {l : List Rg} (h : RInv l) (q : Rg → Bool) : ∀ s ∈ spR l q, okS s := fun s hs => by
  unfold spR at hs
  obtain ⟨r, hr, rfl⟩ := List.mem_map.1 hs
  have := h.ok r (List.mem_filter.1 hr).1
  unfold okS Top
  exact ⟨by simp only; omega, by simp only; omega, by simp only; omega, by simp only; omega⟩
theorem spR_in {l : List Rg} (h : RInv l) (q : Rg → Bool) (p : Int) (hp : p ≤ Top) : inB (mrg (spR l q)) p = (match l.find? (hasR p) with
    | some r => q r
    | none => false) := by
  refine inB_congr ?_
  rw [mrg_in (spR_ok h q) p hp]
  constructor
  · rintro ⟨s, hs, h1⟩
    unfold spR at hs
    obtain ⟨r, hr, rfl⟩ := List.mem_map.1 hs
    obtain ⟨hr, hq⟩ := List.mem_filter.1 hr
    have hh : hasR p r = true := by
      unfold hasR
      rw [Bool.and_eq_true, decide_eq_true_eq, decide_eq_true_eq]
      exact h1
    cases hf : l.find? (hasR p) with
    | none => exact absurd hh (by simpa using List.find?_eq_none.1 hf r hr)
    | some r' =>
      have e : r = r' := h.uniq hr (List.mem_of_find?_eq_some hf) hh (List.find?_some hf)
      rw [← e]
      exact hq
  · intro hq
    cases hf : l.find? (hasR p) with
    | none => rw [hf] at hq; cases hq
    | some r =>
      rw [hf] at hq
      have hh := List.find?_some hf
      unfold hasR at hh
      rw [Bool.and_eq_true, decide_eq_true_eq, decide_eq_true_eq] at hh
      exact ⟨(r.1, r.2.1), List.mem_map.2 ⟨r, List.mem_filter.2 ⟨List.mem_of_find?_eq_some hf, hq⟩, rfl⟩, hh⟩
def nmOf (one : ByteArray) (r : Nm) : Bool := List.beq (ByteArray.toList r.1) (ByteArray.toList one)
def spN (l : List Nm) (one : ByteArray) : List Sp := (l.filter (nmOf one)).map fun r => (r.2.1, r.2.2)
theorem spN_ok {l : List Nm} (h : SInv l) (one : ByteArray) : ∀ s ∈ spN l one, okS s := fun s hs => by
  unfold spN at hs
  obtain ⟨r, hr, rfl⟩ := List.mem_map.1 hs
  have := h r (List.mem_filter.1 hr).1
  unfold okS Top
  exact ⟨by simp only; omega, by simp only; omega, by simp only; omega, by simp only; omega⟩
theorem spN_in {l : List Nm} (h : SInv l) (one : ByteArray) (p : Int) (hp : p ≤ Top) : inB (mrg (spN l one)) p = l.any (fun r => nmOf one r && hasN p r) := by
  refine inB_congr ?_
  rw [mrg_in (spN_ok h one) p hp, List.any_eq_true]
  constructor
  · rintro ⟨s, hs, h1⟩
    unfold spN at hs
    obtain ⟨r, hr, rfl⟩ := List.mem_map.1 hs
    obtain ⟨hr, hq⟩ := List.mem_filter.1 hr
    refine ⟨r, hr, ?_⟩
    unfold hasN
    rw [hq, Bool.true_and, Bool.and_eq_true, decide_eq_true_eq, decide_eq_true_eq]
    exact h1
  · rintro ⟨r, hr, hq⟩
    rw [Bool.and_eq_true] at hq
    have hh := hq.2
    unfold hasN at hh
    rw [Bool.and_eq_true, decide_eq_true_eq, decide_eq_true_eq] at hh
    exact ⟨(r.2.1, r.2.2), List.mem_map.2 ⟨r, List.mem_filter.2 ⟨hr, hq.1⟩, rfl⟩, hh⟩
def spD (l : List Dc) : List Sp := (l.filter fun d => d.2.2.1).map fun d => (d.1, d.1)
def DInv (l : List Dc) : Prop := ∀ d ∈ l, 0 ≤ d.1 ∧ d.1 ≤ Top
theorem spD_ok {l : List Dc} (h : DInv l) : ∀ s ∈ spD l, okS s := fun s hs => by
  unfold spD at hs
  obtain ⟨r, hr, rfl⟩ := List.mem_map.1 hs
  have := h r (List.mem_filter.1 hr).1
  exact ⟨this.1, this.2, this.1, this.2⟩

theorem scan {V X T : Type} {b : V → Option (V ⊕ X)} (l : List T) (q : T → Bool) (st : Nat → V) (yes : Nat → X) (no : X)
    (hs : ∀ i (h : i < l.length), b (st i) = if q l[i] = true then some (.inr (yes i)) else some (.inl (st (i + 1)))) (he : b (st l.length) = some (.inr no)) :
    ∀ n i, n + i = l.length → runLoop b (st i) = some (match (l.drop i).findIdx? q with
      | some k => yes (i + k)
      | none => no) := by
  intro n
  induction n with
  | zero =>
    intro i hi
    have : i = l.length := by omega
    subst this
    rw [runLoop_done he, List.drop_length]
    rfl
  | succ n ih =>
    intro i hi
    have hlt : i < l.length := by omega
    have h := hs i hlt
    rw [List.drop_eq_getElem_cons hlt, List.findIdx?_cons]
    cases hq : q l[i] with
    | true =>
      rw [hq, if_pos rfl] at h
      rw [runLoop_done h]
      simp
    | false =>
      rw [hq, if_neg (by simp)] at h
      rw [runLoop_step h, ih (i + 1) (by omega)]
      simp only [Bool.false_eq_true, if_false]
      cases List.findIdx? q (l.drop (i + 1)) with
      | none => rfl
      | some k => simp only [Option.map_some]; rw [show i + 1 + k = i + (k + 1) by omega]
theorem scan0 {V X T : Type} {b : V → Option (V ⊕ X)} (l : List T) (q : T → Bool) (st : Nat → V) (yes : Nat → X) (no : X)
    (hs : ∀ i (h : i < l.length), b (st i) = if q l[i] = true then some (.inr (yes i)) else some (.inl (st (i + 1)))) (he : b (st l.length) = some (.inr no)) :
    runLoop b (st 0) = some (match l.findIdx? q with
      | some k => yes k
      | none => no) := by
  rw [scan l q st yes no hs he l.length 0 rfl, List.drop_zero]
  cases List.findIdx? q l with
  | none => rfl
  | some k => simp only [Nat.zero_add]
theorem gath {V X T U : Type} {b : V → Option (V ⊕ X)} (l : List T) (q : T → Bool) (g : T → U) (st : Nat → List U → V) (fin : List U → X)
    (hs : ∀ i (h : i < l.length) acc, acc.length ≤ i → b (st i acc) = some (.inl (st (i + 1) (if q l[i] = true then acc ++ [g l[i]] else acc)))) (he : ∀ acc, b (st l.length acc) = some (.inr (fin acc))) :
    ∀ n i acc, n + i = l.length → acc.length ≤ i → runLoop b (st i acc) = some (fin (acc ++ ((l.drop i).filter q).map g)) := by
  intro n
  induction n with
  | zero =>
    intro i acc hi _
    have : i = l.length := by omega
    subst this
    rw [runLoop_done (he acc), List.drop_length]
    simp
  | succ n ih =>
    intro i acc hi ha
    have hlt : i < l.length := by omega
    rw [runLoop_step (hs i hlt acc ha), List.drop_eq_getElem_cons hlt, List.filter_cons]
    cases hq : q l[i] with
    | true =>
      simp only [if_true]
      rw [ih (i + 1) _ (by omega) (by simp; omega)]
      simp
    | false =>
      simp only [Bool.false_eq_true, if_false]
      rw [ih (i + 1) _ (by omega) (by omega)]
theorem gath0 {V X T U : Type} {b : V → Option (V ⊕ X)} (l : List T) (q : T → Bool) (g : T → U) (st : Nat → List U → V) (fin : List U → X)
    (hs : ∀ i (h : i < l.length) acc, acc.length ≤ i → b (st i acc) = some (.inl (st (i + 1) (if q l[i] = true then acc ++ [g l[i]] else acc)))) (he : ∀ acc, b (st l.length acc) = some (.inr (fin acc))) :
    runLoop b (st 0 []) = some (fin ((l.filter q).map g)) := by
  rw [gath l q g st fin hs he l.length 0 [] rfl (Nat.zero_le _), List.drop_zero, List.nil_append]
theorem findIdx_any {T : Type} (l : List T) (q : T → Bool) : (l.findIdx? q).isSome = l.any q := by
  rw [List.findIdx?_isSome]
end Go.Pc
