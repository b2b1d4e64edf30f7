/- Part 17 of the proof of the statement that the last part names; it asks for no condition of its own. Here: PcSpan, PcCut, PcAuto, PcMg, PcPoint, PcSplit, PcRead, PcRead2, PcFull. -/
import Derived.Test.YtgkfbembnlgahaaGreatDoorQab
import Derived.Test.YtgkfbembnlgahaaGreatDoorQam
import Derived.Lib.QuoteLoop
import Derived.Lib.RuneCount
import Derived.Lib.TrimAscii
import Derived.Laws.Bits64
import Derived.Test.YtgkfbembnlgahaaGreatDoorQae
import Derived.Lib.SplitLaws
/- Spans: merging, what lies outside: plain lists, no program. -/
set_option linter.unusedVariables false
set_option linter.unusedSimpArgs false
namespace Go.Pc
open Go Go.Sx

abbrev Sp := Int × Int
theorem wrap_u32' (n : Int) (h0 : 0 ≤ n) (h1 : n ≤ 4294967295) : IntKind.u32.wrap n = n := by
  unfold IntKind.wrap
  have e : (2 ^ IntKind.u32.bits : Int) = 4294967296 := by decide
  have e2 : IntKind.u32.signed = false := rfl
  simp only [e, e2, Bool.false_and, Bool.false_eq_true, if_false]
  omega
/-- Is a word in one of the spans? -/
def InL (l : List Sp) (p : Int) : Prop := ∃ s ∈ l, s.1 ≤ p ∧ p ≤ s.2
def Top : Int := 4294967295
def okS (s : Sp) : Prop := 0 ≤ s.1 ∧ s.1 ≤ Top ∧ 0 ≤ s.2 ∧ s.2 ≤ Top

theorem InL_nil (p : Int) : ¬ InL [] p := fun ⟨_, h, _⟩ => by cases h
theorem InL_cons (s : Sp) (l : List Sp) (p : Int) : InL (s :: l) p ↔ (s.1 ≤ p ∧ p ≤ s.2) ∨ InL l p := by
  constructor
  · rintro ⟨t, ht, h⟩
    rcases List.mem_cons.1 ht with rfl | ht
    · exact .inl h
    · exact .inr ⟨t, ht, h⟩
  · rintro (h | ⟨t, ht, h⟩)
    · exact ⟨s, List.mem_cons_self, h⟩
    · exact ⟨t, List.mem_cons_of_mem _ ht, h⟩
theorem InL_append (l m : List Sp) (p : Int) : InL (l ++ m) p ↔ InL l p ∨ InL m p := by
  constructor
  · rintro ⟨t, ht, h⟩
    rcases List.mem_append.1 ht with ht | ht
    · exact .inl ⟨t, ht, h⟩
    · exact .inr ⟨t, ht, h⟩
  · rintro (⟨t, ht, h⟩ | ⟨t, ht, h⟩)
    · exact ⟨t, List.mem_append.2 (.inl ht), h⟩
    · exact ⟨t, List.mem_append.2 (.inr ht), h⟩
theorem InL_perm {l m : List Sp} (h : l.Perm m) (p : Int) : InL l p ↔ InL m p := by
  constructor
  · rintro ⟨t, ht, h'⟩; exact ⟨t, h.mem_iff.1 ht, h'⟩
  · rintro ⟨t, ht, h'⟩; exact ⟨t, h.mem_iff.2 ht, h'⟩
theorem InL_rev (l : List Sp) (p : Int) : InL l.reverse p ↔ InL l p := InL_perm (List.reverse_perm l) p

/-- Merged, the last one first. -/
def MR : List Sp → Prop
  | [] => True
  | [x] => x.1 ≤ x.2
  | x :: y :: r => x.1 ≤ x.2 ∧ y.2 + 1 < x.1 ∧ MR (y :: r)
theorem MR_tail {x : Sp} {r : List Sp} (h : MR (x :: r)) : MR r := by
  cases r with
  | nil => trivial
  | cons y r => exact h.2.2
theorem MR_head {x : Sp} {r : List Sp} (h : MR (x :: r)) : x.1 ≤ x.2 := by
  cases r with
  | nil => exact h
  | cons y r => exact h.1
/-- All behind the first one lie below it. -/
theorem MR_below : ∀ {r : List Sp} {x : Sp}, MR (x :: r) → ∀ s ∈ r, s.2 + 1 < x.1
  | [], _, _, s, hs => by cases hs
  | y :: r, x, h, s, hs => by
    rcases List.mem_cons.1 hs with rfl | hs
    · exact h.2.1
    · have h1 := MR_below h.2.2 s hs
      have h2 := h.2.1
      have h3 := MR_head h.2.2
      omega
theorem MR_ok : ∀ {l : List Sp}, MR l → ∀ s ∈ l, s.1 ≤ s.2
  | [], _, s, hs => by cases hs
  | x :: r, h, s, hs => by
    rcases List.mem_cons.1 hs with rfl | hs
    · exact MR_head h
    · exact MR_ok (MR_tail h) s hs

/-- A round of merging: the last one first. -/
def mStep : List Sp → Sp → List Sp
  | [], s => [s]
  | x :: r, s => if x.2 = Top ∨ s.1 ≤ x.2 + 1 then (x.1, max x.2 s.2) :: r else s :: x :: r
def mAll (l : List Sp) : List Sp := l.foldl mStep []

/-- What holds behind each round: the spans gone through are `l`. -/
structure MInv (l acc : List Sp) : Prop where
  mr : MR acc
  same : ∀ p, p ≤ Top → (InL acc p ↔ InL l p)
  le : ∀ x ∈ acc, ∃ y ∈ l, x.1 = y.1
  top : ∀ x ∈ acc, 0 ≤ x.1 ∧ x.2 ≤ Top
  len : acc.length ≤ l.length
  ne : l ≠ [] → acc ≠ []
theorem mStep_cons (x : Sp) (r : List Sp) (s : Sp) : mStep (x :: r) s = if x.2 = Top ∨ s.1 ≤ x.2 + 1 then (x.1, max x.2 s.2) :: r else s :: x :: r := rfl
theorem MInv.nil : MInv [] [] := ⟨trivial, fun _ _ => Iff.rfl, (fun _ h => by cases h), (fun _ h => by cases h), Nat.le_refl _, fun h => absurd rfl h⟩
theorem MInv.step {l acc : List Sp} (h : MInv l acc) {s : Sp} (hs : okS s) (hv : s.1 ≤ s.2) (hb : ∀ x ∈ l, x.1 ≤ s.1) : MInv (l ++ [s]) (mStep acc s) := by
  have hsame : ∀ p, (InL (l ++ [s]) p ↔ InL l p ∨ (s.1 ≤ p ∧ p ≤ s.2)) := fun p => by
    rw [InL_append, InL_cons]
    exact ⟨fun h => h.elim .inl fun h => .inr (h.elim id fun h => absurd h (InL_nil p)), fun h => h.elim .inl fun h => .inr (.inl h)⟩
  cases acc with
  | nil =>
    refine ⟨hv, fun p hp => ?_, fun x hx => ⟨s, by simp, ?_⟩, fun x hx => ?_, by simp [mStep], fun _ => by simp [mStep]⟩
    · rw [hsame, ← h.same p hp]
      show InL [s] p ↔ _
      rw [InL_cons]
      exact ⟨fun h => h.elim .inr fun h => absurd h (InL_nil p), fun h => h.elim (fun h => absurd h (InL_nil p)) .inl⟩
    · rw [List.mem_singleton.1 hx]
    · rw [List.mem_singleton.1 hx]; exact ⟨hs.1, hs.2.2.2⟩
  | cons x r =>
    obtain ⟨y, hy, hxy⟩ := h.le x List.mem_cons_self
    have hx1 : x.1 ≤ s.1 := by rw [hxy]; exact hb y hy
    have hx2 := MR_head h.mr
    have hxt := h.top x List.mem_cons_self
    have hst := hs.2.2.2
    rw [mStep_cons]
    split
    · rename_i hc
      have hmax : x.2 ≤ max x.2 s.2 ∧ s.2 ≤ max x.2 s.2 ∧ (max x.2 s.2 = x.2 ∨ max x.2 s.2 = s.2) := by omega
      refine ⟨?_, fun p hp => ?_, fun z hz => ?_, fun z hz => ?_, ?_, fun _ => by simp⟩
      · cases r with
        | nil => show x.1 ≤ max x.2 s.2; omega
        | cons z r => exact ⟨show x.1 ≤ max x.2 s.2 by omega, h.mr.2.1, h.mr.2.2⟩
      · rw [hsame, ← h.same p hp, InL_cons, InL_cons]
        constructor
        · rintro (⟨h1, h2⟩ | h3)
          · simp only at h1 h2
            by_cases hp2 : p ≤ x.2
            · exact .inl (.inl ⟨h1, hp2⟩)
            · exact .inr ⟨by omega, by omega⟩
          · exact .inl (.inr h3)
        · rintro ((⟨h1, h2⟩ | h3) | ⟨h1, h2⟩)
          · exact .inl ⟨h1, by simp only; omega⟩
          · exact .inr h3
          · exact .inl ⟨by simp only; omega, by simp only; omega⟩
      · rcases List.mem_cons.1 hz with rfl | hz
        · exact ⟨y, List.mem_append.2 (.inl hy), hxy⟩
        · obtain ⟨y', hy', e⟩ := h.le z (List.mem_cons_of_mem _ hz)
          exact ⟨y', List.mem_append.2 (.inl hy'), e⟩
      · rcases List.mem_cons.1 hz with rfl | hz
        · exact ⟨hxt.1, by simp only; omega⟩
        · exact h.top z (List.mem_cons_of_mem _ hz)
      · have := h.len
        simp only [List.length_cons, List.length_append, List.length_nil] at this ⊢
        omega
    · rename_i hc
      have hc1 : x.2 + 1 < s.1 := by omega
      refine ⟨⟨hv, hc1, h.mr⟩, fun p hp => ?_, fun z hz => ?_, fun z hz => ?_, ?_, fun _ => by simp⟩
      · rw [hsame, ← h.same p hp, InL_cons]
        exact Or.comm
      · rcases List.mem_cons.1 hz with rfl | hz
        · exact ⟨z, List.mem_append.2 (.inr (by simp)), rfl⟩
        · obtain ⟨y', hy', e⟩ := h.le z hz
          exact ⟨y', List.mem_append.2 (.inl hy'), e⟩
      · rcases List.mem_cons.1 hz with rfl | hz
        · exact ⟨hs.1, hs.2.2.2⟩
        · exact h.top z hz
      · have := h.len
        simp only [List.length_cons, List.length_append, List.length_nil] at this ⊢
        omega
/-- Merging as a whole: of valid spans in order of their first words. -/
theorem MInv.all : ∀ (m l acc : List Sp), MInv l acc → (∀ s ∈ m, okS s ∧ s.1 ≤ s.2) → (l ++ m).Pairwise (fun a b => a.1 ≤ b.1) → MInv (l ++ m) (m.foldl mStep acc)
  | [], l, acc, h, _, _ => by rw [List.append_nil]; exact h
  | s :: m, l, acc, h, hm, hp => by
    have e : l ++ s :: m = (l ++ [s]) ++ m := by rw [List.append_assoc]; rfl
    rw [e] at hp ⊢
    refine MInv.all m (l ++ [s]) (mStep acc s) (h.step (hm s List.mem_cons_self).1 (hm s List.mem_cons_self).2 fun x hx => ?_) (fun t ht => hm t (List.mem_cons_of_mem _ ht)) hp
    have := (List.pairwise_append.1 hp).1
    exact (List.pairwise_append.1 this).2.2 x hx s (by simp)
theorem mAll_inv {l : List Sp} (hm : ∀ s ∈ l, okS s ∧ s.1 ≤ s.2) (hp : l.Pairwise (fun a b => a.1 ≤ b.1)) : MInv l (mAll l) := MInv.all l [] [] MInv.nil hm hp

/-- Merged, the first one first. -/
def MF (l : List Sp) : Prop := MR l.reverse
theorem MR_split : ∀ {a b : List Sp}, MR (a ++ b) → MR b
  | [], b, h => h
  | _ :: a, b, h => MR_split (MR_tail (r := a ++ b) h)
theorem MF_at {l : List Sp} (h : MF l) {i : Nat} {x y : Sp} (hx : l[i]? = some x) (hy : l[i + 1]? = some y) : x.2 + 1 < y.1 := by
  have hi : i + 1 < l.length := by
    have := List.getElem?_eq_some_iff.1 hy
    exact this.1
  have e : l = l.take i ++ x :: y :: l.drop (i + 2) := by
    have h1 : l.drop i = x :: l.drop (i + 1) := by
      rw [List.drop_eq_getElem_cons (by omega)]
      congr 1
      rw [List.getElem?_eq_getElem (by omega)] at hx
      exact Option.some.inj hx
    have h2 : l.drop (i + 1) = y :: l.drop (i + 2) := by
      rw [List.drop_eq_getElem_cons hi]
      congr 1
      rw [List.getElem?_eq_getElem hi] at hy
      exact Option.some.inj hy
    conv => lhs; rw [← List.take_append_drop i l, h1, h2]
  unfold MF at h
  rw [e, List.reverse_append, List.reverse_cons, List.reverse_cons, List.append_assoc, List.append_assoc] at h
  have h' := MR_split h
  exact h'.2.1
theorem MF_ok {l : List Sp} (h : MF l) : ∀ s ∈ l, s.1 ≤ s.2 := fun s hs => MR_ok h s (List.mem_reverse.2 hs)

/-! What lies outside. -/
def Lst : Int := 1114111
structure OInv (done rest acc : List Sp) (fr : Int) : Prop where
  mr : MR acc
  acc_b : ∀ x ∈ acc, 0 ≤ x.1 ∧ x.2 + 1 < fr
  fr0 : 0 ≤ fr ∧ fr ≤ Lst + 1
  same : ∀ p, 0 ≤ p → p < fr → (InL acc p ↔ ¬ InL done p)
  below : ∀ s ∈ done, s.2 < fr ∨ fr = Lst + 1
  last : fr = 0 ∨ ∃ z ∈ done, fr ≤ z.2 + 1
  ord : (done ++ rest).Pairwise (fun a b => a.2 + 1 < b.1)
  ok : ∀ s ∈ done ++ rest, 0 ≤ s.1 ∧ s.1 ≤ s.2
  len : acc.length ≤ done.length
theorem OInv.ahead {done rest acc : List Sp} {fr : Int} (h : OInv done rest acc fr) : ∀ s ∈ rest, fr ≤ s.1 := fun s hs => by
  have := (h.ok s (List.mem_append.2 (.inr hs))).1
  rcases h.last with h0 | ⟨z, hz, hle⟩
  · omega
  · have := (List.pairwise_append.1 h.ord).2.2 z hz s hs
    omega
theorem OInv.start {l : List Sp} (ho : l.Pairwise (fun a b => a.2 + 1 < b.1)) (hk : ∀ s ∈ l, 0 ≤ s.1 ∧ s.1 ≤ s.2) : OInv [] l [] 0 :=
  ⟨trivial, (fun _ h => by cases h), ⟨Int.le_refl _, by decide⟩, fun p h0 h1 => by omega, (fun _ h => by cases h), .inl rfl, ho, hk, Nat.le_refl _⟩
theorem OInv.step {done rest acc : List Sp} {fr : Int} {s : Sp} (h : OInv done (s :: rest) acc fr) (h1 : s.1 ≤ Lst) (h2 : fr ≤ Lst) :
    OInv (done ++ [s]) rest (if s.1 > fr then (fr, s.1 - 1) :: acc else acc) (min s.2 Lst + 1) := by
  have hs := h.ok s (List.mem_append.2 (.inr List.mem_cons_self))
  have ha := h.ahead s List.mem_cons_self
  have hm : (min s.2 Lst = s.2 ∨ min s.2 Lst = Lst) ∧ min s.2 Lst ≤ s.2 ∧ min s.2 Lst ≤ Lst := by omega
  have e : (done ++ [s]) ++ rest = done ++ s :: rest := by rw [List.append_assoc]; rfl
  have hnd : ∀ p, fr ≤ p → ¬ InL done p := by
    rintro p hp ⟨z, hz, hz1, hz2⟩
    rcases h.below z hz with hb | hb
    · omega
    · omega
  have hIn : ∀ p, (InL (done ++ [s]) p ↔ InL done p ∨ (s.1 ≤ p ∧ p ≤ s.2)) := fun p => by
    rw [InL_append, InL_cons]
    exact ⟨fun h => h.elim .inl fun h => .inr (h.elim id fun h => absurd h (InL_nil p)), fun h => h.elim .inl fun h => .inr (.inl h)⟩
  refine ⟨?_, ?_, ⟨by have := h.fr0; omega, by omega⟩, ?_, ?_, ?_, by rw [e]; exact h.ord, by rw [e]; exact h.ok, ?_⟩
  · split
    · rename_i hg
      cases acc with
      | nil => show fr ≤ s.1 - 1; omega
      | cons y r => exact ⟨show fr ≤ s.1 - 1 by omega, (h.acc_b y List.mem_cons_self).2, h.mr⟩
    · exact h.mr
  · have base : ∀ x ∈ acc, 0 ≤ x.1 ∧ x.2 + 1 < min s.2 Lst + 1 := fun x hx => by
      have := h.acc_b x hx
      omega
    split
    · intro x hx
      rcases List.mem_cons.1 hx with rfl | hx
      · have := h.fr0
        refine ⟨this.1, ?_⟩
        simp only
        omega
      · exact base x hx
    · exact base
  · intro p h0 hp
    rw [hIn]
    by_cases hpf : p < fr
    · have key : InL (if s.1 > fr then (fr, s.1 - 1) :: acc else acc) p ↔ InL acc p := by
        split
        · rw [InL_cons]
          exact ⟨fun h => h.elim (fun h => by simp only at h; omega) id, .inr⟩
        · exact Iff.rfl
      rw [key, h.same p h0 hpf]
      exact ⟨fun hn hc => hc.elim hn (fun hc => by omega), fun hn hc => hn (.inl hc)⟩
    · have hn := hnd p (by omega)
      have hacc : ¬ InL acc p := by
        rintro ⟨z, hz, hz1, hz2⟩
        have := h.acc_b z hz
        omega
      by_cases hps : p < s.1
      · rw [if_pos (by omega)]
        rw [InL_cons]
        exact ⟨fun _ hc => hc.elim hn (fun hc => by omega), fun _ => .inl ⟨by simp only; omega, by simp only; omega⟩⟩
      · have hin : s.1 ≤ p ∧ p ≤ s.2 := ⟨by omega, by omega⟩
        refine ⟨fun hc => ?_, fun hc => absurd (.inr hin) hc⟩
        exfalso
        split at hc
        · rw [InL_cons] at hc
          rcases hc with hc | hc
          · simp only at hc; omega
          · exact hacc hc
        · exact hacc hc
  · intro z hz
    rcases List.mem_append.1 hz with hz | hz
    · have := (List.pairwise_append.1 h.ord).2.2 z hz s List.mem_cons_self
      omega
    · rw [List.mem_singleton.1 hz]
      omega
  · exact .inr ⟨s, by simp, by omega⟩
  · have := h.len
    split <;> simp only [List.length_cons, List.length_append, List.length_nil] <;> omega
/-- What is left at the end. -/
def oEnd (acc : List Sp) (fr : Int) : List Sp := if fr ≤ Lst then (fr, Lst) :: acc else acc
theorem OInv.fin {done rest acc : List Sp} {fr : Int} (h : OInv done rest acc fr) (hr : ∀ s ∈ rest, Lst < s.1 ∨ Lst < fr) :
    MR (oEnd acc fr) ∧ (∀ p, 0 ≤ p → (InL (oEnd acc fr) p ↔ ¬ InL (done ++ rest) p ∧ p ≤ Lst)) ∧ (oEnd acc fr).length ≤ done.length + 1 ∧ ∀ x ∈ oEnd acc fr, 0 ≤ x.1 ∧ x.2 ≤ Lst := by
  have hf := h.fr0
  refine ⟨?_, ?_, ?_, ?_⟩
  · unfold oEnd
    split
    · rename_i hg
      cases acc with
      | nil => exact hg
      | cons y r => exact ⟨hg, (h.acc_b y List.mem_cons_self).2, h.mr⟩
    · exact h.mr
  · intro p h0
    have hrest : p ≤ Lst → ¬ InL rest p := by
      rintro hp ⟨z, hz, hz1, hz2⟩
      have := h.ahead z hz
      rcases hr z hz with hb | hb
      · omega
      · omega
    have hAL : ¬ p ≤ Lst → ¬ InL acc p := by
      rintro hp ⟨z, hz, hz1, hz2⟩
      have := h.acc_b z hz
      omega
    rw [InL_append]
    by_cases hp : p ≤ Lst
    · have hr' := hrest hp
      by_cases hpf : p < fr
      · have key : InL (oEnd acc fr) p ↔ InL acc p := by
          unfold oEnd
          split
          · rw [InL_cons]
            exact ⟨fun h => h.elim (fun h => by simp only at h; omega) id, .inr⟩
          · exact Iff.rfl
        rw [key, h.same p h0 hpf]
        exact ⟨fun hn => ⟨fun hc => hc.elim hn hr', hp⟩, fun hn hc => hn.1 (.inl hc)⟩
      · have hd : ¬ InL done p := by
          rintro ⟨z, hz, hz1, hz2⟩
          rcases h.below z hz with hb | hb <;> omega
        unfold oEnd
        rw [if_pos (by omega), InL_cons]
        exact ⟨fun _ => ⟨fun hc => hc.elim hd hr', hp⟩, fun _ => .inl ⟨by simp only; omega, hp⟩⟩
    · refine ⟨fun hc => ?_, fun hc => absurd hc.2 hp⟩
      exfalso
      unfold oEnd at hc
      split at hc
      · rw [InL_cons] at hc
        rcases hc with hc | hc
        · have := hc.2; omega
        · exact hAL hp hc
      · exact hAL hp hc
  · have := h.len
    unfold oEnd
    split <;> (try simp only [List.length_cons]) <;> omega
  · intro x hx
    unfold oEnd at hx
    split at hx
    · rcases List.mem_cons.1 hx with rfl | hx
      · exact ⟨hf.1, Int.le_refl _⟩
      · have := h.acc_b x hx
        omega
    · have := h.acc_b x hx
      omega
theorem MR_pair : ∀ {l : List Sp}, MR l → l.reverse.Pairwise (fun a b => a.2 + 1 < b.1)
  | [], _ => by simp
  | x :: r, h => by
    rw [List.reverse_cons, List.pairwise_append]
    refine ⟨MR_pair (MR_tail h), by simp, fun a ha b hb => ?_⟩
    rw [List.mem_singleton.1 hb]
    exact MR_below h a (List.mem_reverse.1 ha)
theorem MF_pair {l : List Sp} (h : MF l) : l.Pairwise (fun a b => a.2 + 1 < b.1) := by
  have := MR_pair h
  rwa [List.reverse_reverse] at this
end Go.Pc

/- What is cut off a text's ends, and 'made': pure lemmas, and what the printed functions come to. -/
set_option linter.unusedVariables false
set_option linter.unusedSimpArgs false
set_option maxRecDepth 100000
namespace Go.Pc
open Go Go.Sx Go.Tx

theorem runLoop_to {V X ι : Type} {b : V → Option (V ⊕ X)} (I : ι → Prop) (st : ι → V) (μ : ι → Nat) (r : X)
    (h : ∀ i, I i → (∃ j, b (st i) = some (.inl (st j)) ∧ I j ∧ μ j < μ i) ∨ b (st i) = some (.inr r)) (i : ι) (hi : I i) : runLoop b (st i) = some r := by
  obtain ⟨x, h1, h2⟩ := runLoop_ind I st μ (fun x => x = r) (fun i hi => (h i hi).imp (fun h => h) (fun h => ⟨r, h, rfl⟩)) i hi
  rw [h1, h2]

theorem wrap_i64 (n : Int) (h1 : -9223372036854775808 ≤ n) (h2 : n ≤ 9223372036854775807) : IntKind.i64.wrap n = n := by
  rw [IntKind.wrap_i64]; omega

theorem decode_pos (s : ByteArray) (p : Nat) (hp : p < s.size) : 1 ≤ (Utf8.decode s p).2 ∧ p + (Utf8.decode s p).2 ≤ s.size := by
  refine ⟨Lib.decode_width_pos s p hp, ?_⟩
  rw [Lib.decode_at]
  have := Lib.decodeN_width_le (s.size - p) (s.get! p).toNat (s.get! (p + 1)).toNat (s.get! (p + 2)).toNat (s.get! (p + 3)).toNat (by omega)
  omega

@[simp] theorem beq_cast (a b : Nat) : ((a : Int) == (b : Int)) = (a == b) := by
  rw [Bool.eq_iff_iff, beq_iff_eq, beq_iff_eq]
  omega

theorem decode_low (s : ByteArray) (p : Nat) (b : UInt8) (hp : s.data.toList[p]? = some b) (hb : b.toNat < 128) : Utf8.decode s p = (b.toNat, 1) := by
  have hlt : p < s.data.size := by
    have := (List.getElem?_eq_some_iff.1 hp).1
    simpa using this
  have hg : s.get! (p + 0) = b := by
    show s.data[p + 0]! = b
    rw [Nat.add_zero]
    simp only [Array.getElem!_eq_getD, Array.getD_eq_getD_getElem?]
    rw [← Array.getElem?_toList, hp]
    rfl
  unfold Utf8.decode
  simp only [hg]
  rw [if_pos (by omega)]

def cutL (s : ByteArray) (m : Nat → Bool) : Nat → Nat → ByteArray
  | 0, _ => ByteArray.empty
  | f + 1, p => if p < s.size then if m (Utf8.decode s p).1 then cutL s m f (p + (Utf8.decode s p).2) else s.extract p s.size else ByteArray.empty

def inSet (B : ByteArray) (c : Nat) : Bool := B.data.toList.any (fun b => c == b.toNat)

theorem cutL_fuel (s : ByteArray) (m : Nat → Bool) : ∀ (f f' p : Nat), s.size - p < f → s.size - p < f' → cutL s m f p = cutL s m f' p
  | 0, _, _, h, _ => by omega
  | _ + 1, 0, _, _, h => by omega
  | f + 1, f' + 1, p, h, h' => by
    simp only [cutL]
    by_cases hp : p < s.size
    · have hd := decode_pos s p hp
      rw [if_pos hp, if_pos hp, cutL_fuel s m f f' _ (by omega) (by omega)]
    · rw [if_neg hp, if_neg hp]

theorem cutL_skip {s : ByteArray} {m : Nat → Bool} {f p : Nat} (hp : p < s.size) (hm : m (Utf8.decode s p).1 = true) : cutL s m (f + 1) p = cutL s m f (p + (Utf8.decode s p).2) := by
  simp only [cutL]
  rw [if_pos hp, if_pos hm]

def Low (B : ByteArray) : Prop := ∀ b ∈ B.data.toList, b.toNat < 128

def cutR (m : Nat → Bool) : Nat → ByteArray → ByteArray
  | 0, s => s
  | f + 1, s => if 0 < s.size then if m (Lib.decodeLastL s.data.toList).1 then cutR m f (s.extract 0 (s.size - (Lib.decodeLastL s.data.toList).2)) else s else s

theorem cutR_fuel (m : Nat → Bool) : ∀ (f f' : Nat) (s : ByteArray), s.size ≤ f → s.size ≤ f' → cutR m f s = cutR m f' s
  | 0, 0, _, _, _ => rfl
  | 0, f' + 1, s, h, _ => by
    simp only [cutR]
    rw [if_neg (by omega)]
  | f + 1, 0, s, _, h => by
    simp only [cutR]
    rw [if_neg (by omega)]
  | f + 1, f' + 1, s, h, h' => by
    simp only [cutR]
    by_cases hp : 0 < s.size
    · have hw := Lib.decodeLastL_width s.data.toList (by rw [Array.length_toList]; exact hp)
      rw [if_pos hp, if_pos hp, cutR_fuel m f f' _ (by rw [ByteArray.size_extract]; omega) (by rw [ByteArray.size_extract]; omega)]
    · rw [if_neg hp, if_neg hp]

/-- All signs of a set. -/
def allIn (B s : ByteArray) : Bool := s.data.toList.all (fun b => B.data.toList.contains b)

theorem inSet_byte (B : ByteArray) (b : UInt8) : inSet B b.toNat = B.data.toList.contains b := by
  unfold inSet
  generalize B.data.toList = l
  induction l with
  | nil => rfl
  | cons x r ih =>
    rw [List.any_cons, ih, List.contains_cons]
    congr 1
    rw [Bool.eq_iff_iff, beq_iff_eq, beq_iff_eq]
    exact ⟨fun h => UInt8.toNat_inj.1 h, fun h => by rw [h]⟩

theorem inSet_low {B : ByteArray} (h : Low B) {c : Nat} (hc : inSet B c = true) : c < 128 := by
  unfold inSet at hc
  rw [List.any_eq_true] at hc
  obtain ⟨b, hb, he⟩ := hc
  have := h b hb
  simp only [beq_iff_eq] at he
  omega

theorem byte_at (s : ByteArray) (q : Nat) (hq : q < s.size) : s.data.toList[q]? = some (s[q]'hq) := by
  rw [Array.getElem?_toList]
  exact Array.getElem?_eq_getElem hq

theorem cutL_spec {B : ByteArray} (s : ByteArray) (h : Low B) : ∀ (f p : Nat), s.size - p < f → p ≤ s.size → (∀ b ∈ s.data.toList.take p, B.data.toList.contains b = true) →
    (cutL s (inSet B) f p = ByteArray.empty ∧ allIn B s = true) ∨ ∃ q, ∃ hq : q < s.size, cutL s (inSet B) f p = s.extract q s.size ∧ B.data.toList.contains (s[q]'hq) = false
  | 0, p, hf, _, _ => by omega
  | f + 1, p, hf, hp, hall => by
    simp only [cutL]
    have hsz : s.data.toList.length = s.size := Array.length_toList
    by_cases hlt : p < s.size
    · rw [if_pos hlt]
      by_cases hin : inSet B (Utf8.decode s p).1 = true
      · rw [if_pos hin]
        have hlow : (s[p]'hlt).toNat < 128 := by
          by_cases hb : (s[p]'hlt).toNat < 128
          · exact hb
          · have := (decode_high s p hlt (by omega)).1
            have := inSet_low h hin
            omega
        rw [decode_low s p _ (byte_at s p hlt) hlow] at hin ⊢
        rw [inSet_byte] at hin
        refine cutL_spec s h f (p + 1) (by omega) hlt (fun b hb => ?_)
        rw [List.take_add_one, List.mem_append] at hb
        rcases hb with hb | hb
        · exact hall b hb
        · rw [byte_at s p hlt] at hb
          simp only [Option.toList_some, List.mem_singleton] at hb
          rw [hb]; exact hin
      · rw [if_neg hin]
        refine .inr ⟨p, hlt, rfl, ?_⟩
        by_cases hb : (s[p]'hlt).toNat < 128
        · rw [decode_low s p _ (byte_at s p hlt) hb, inSet_byte] at hin
          simpa using hin
        · rw [← inSet_byte]
          cases hq : inSet B (s[p]'hlt).toNat with
          | false => rfl
          | true => exact absurd (inSet_low h hq) hb
    · rw [if_neg hlt]
      refine .inl ⟨rfl, ?_⟩
      unfold allIn
      rw [List.all_eq_true]
      intro b hb
      exact hall b (by rw [List.take_of_length_le (by omega)]; exact hb)

theorem decodeL_low (l : List UInt8) (hl : l ≠ []) (h : (Lib.decodeL l).1 < 128) : (Lib.decodeL l).2 = 1 ∧ (l.getD 0 0).toNat < 128 := by
  cases l with
  | nil => exact absurd rfl hl
  | cons b t =>
    by_cases hb : b.toNat < 128
    · exact ⟨by rw [Lib.decodeL_ascii b t hb], hb⟩
    · exfalso
      have hlt : 0 < (⟨(b :: t).toArray⟩ : ByteArray).size := by
        show 0 < (b :: t).toArray.size
        simp
      have := (decode_high ⟨(b :: t).toArray⟩ 0 hlt (by
        show 128 ≤ ((b :: t).toArray[0]).toNat
        simp
        omega)).1
      unfold Lib.decodeL at h
      omega

theorem decodeLast_low (l : List UInt8) (hl : l ≠ []) (h : (Lib.decodeLastL l).1 < 128) : Lib.decodeLastL l = ((l.getD (l.length - 1) 0).toNat, 1) := by
  unfold Lib.decodeLastL at h ⊢
  rw [if_neg hl] at h ⊢
  split at h
  · rename_i hb; rw [if_pos hb]
  · rename_i hb
    exfalso
    simp only at h
    split at h
    · rename_i hs
      have hlen : 0 < l.length := List.length_pos_iff.2 hl
      have hw := Lib.decodeLastL_width l hlen
      by_cases hd : l.drop (Lib.lastStart l) = []
      · rw [hd] at hs
        have h2 : (Lib.decodeL []).2 = 1 := by decide
        have h3 := List.drop_eq_nil_iff.1 hd
        omega
      · obtain ⟨h1, h2⟩ := decodeL_low _ hd h
        rw [h1] at hs
        rw [List.getD_eq_getElem?_getD, List.getElem?_drop] at h2
        rw [List.getD_eq_getElem?_getD] at hb
        have : Lib.lastStart l + 0 = l.length - 1 := by omega
        rw [this] at h2
        exact hb h2
    · simp [Utf8.runeError] at h

theorem cutR_spec {B : ByteArray} (h : Low B) : ∀ (f : Nat) (t : ByteArray) (ht : 0 < t.size), B.data.toList.contains (t[0]'ht) = false → 0 < (cutR (inSet B) f t).size
  | 0, t, ht, _ => ht
  | f + 1, t, ht, hc => by
    simp only [cutR]
    rw [if_pos ht]
    split
    · rename_i hin
      have hsz : t.data.toList.length = t.size := Array.length_toList
      have hne : t.data.toList ≠ [] := by intro e; rw [e] at hsz; simp at hsz; omega
      have hd := decodeLast_low t.data.toList hne (inSet_low h hin)
      rw [hd] at hin ⊢
      simp only at hin ⊢
      rw [inSet_byte, hsz] at hin
      have h1 : t.size ≠ 1 := by
        intro e
        rw [e] at hin
        rw [List.getD_eq_getElem?_getD, byte_at t 0 ht] at hin
        simp only [Option.getD_some] at hin
        rw [hin] at hc
        cases hc
      have hlt : 0 < (t.extract 0 (t.size - 1)).size := by rw [ByteArray.size_extract]; omega
      refine cutR_spec h f _ hlt ?_
      have e0 : (t.extract 0 (t.size - 1))[0]'hlt = t[0]'ht := by
        rw [ByteArray.getElem_extract]
      rw [e0]; exact hc
    · exact ht

theorem made_law (set s : ByteArray) (h : Low set) : (cutR (inSet set) (cutL s (inSet set) (s.size + 1) 0).size (cutL s (inSet set) (s.size + 1) 0)).toList.isEmpty = allIn set s := by
  rcases cutL_spec s h (s.size + 1) 0 (by omega) (by omega) (by simp) with ⟨h1, h2⟩ | ⟨q, hq, h1, h2⟩
  · rw [h1, h2, ByteArray.toList_eq]
    rfl
  · rw [h1]
    have hlt : 0 < (s.extract q s.size).size := by rw [ByteArray.size_extract]; omega
    have e0 : (s.extract q s.size)[0]'hlt = s[q]'hq := by
      rw [ByteArray.getElem_extract]
      congr 1
    have := cutR_spec h (s.extract q s.size).size _ hlt (by rw [e0]; exact h2)
    have hf : allIn set s = false := by
      unfold allIn
      rw [List.all_eq_false]
      exact ⟨s[q]'hq, List.mem_of_getElem? (byte_at s q hq), by simpa using h2⟩
    rw [hf, ByteArray.toList_eq]
    generalize cutR (inSet set) (s.extract q s.size).size (s.extract q s.size) = z at this
    cases hz : z.data.toList with
    | nil =>
      have : z.data.toList.length = z.size := Array.length_toList
      rw [hz] at this
      simp at this
      omega
    | cons x r => rfl


/-- The inner loop: is a rune in a set? -/
theorem cutLeft_in (s set : ByteArray) (h : Low set) (i : Int) (c : Nat) (p : Nat) : runLoop chart_cutLeft_b6 (s, set, i, (c : Int), false, s, p, set, 0) = some (s, set, i, inSet set c, s, p) := by
  have hsz : set.data.toList.length = set.size := Array.length_toList
  refine runLoop_to (fun q : Nat => q ≤ set.size) (fun q => (s, set, i, (c : Int), (set.data.toList.take q).any (fun b => c == b.toNat), s, p, set, q)) (fun q => set.size - q) _ ?_ 0 (Nat.zero_le _)
  intro q hq
  by_cases hlt : q < set.size
  · left
    obtain ⟨b, hb⟩ : ∃ b, set.data.toList[q]? = some b := ⟨_, List.getElem?_eq_getElem (by omega)⟩
    have hd := decode_low set q b hb (h b (List.mem_of_getElem? hb))
    refine ⟨q + 1, ?_, hlt, by omega⟩
    simp only [chart_cutLeft_b6, hd, decide_eq_true hlt, if_true]
    rw [List.take_add_one, hb, Option.toList_some, List.any_append]
    cases ha : (set.data.toList.take q).any (fun b => c == b.toNat) with
    | true => simp
    | false =>
      simp
      rw [Bool.eq_iff_iff, decide_eq_true_eq, beq_iff_eq]
      omega
  · right
    have : q = set.size := by omega
    subst this
    simp only [chart_cutLeft_b6, decide_eq_false hlt]
    rw [List.take_of_length_le (by omega)]
    rfl
theorem cutLeft_go (s set : ByteArray) (h : Low set) : ∀ (f p : Nat), p ≤ s.size → s.size - p < f → ((runLoop chart_cutLeft_b2 (s, set, s, p)).bind fun r0_0 =>
   match r0_0 with
   | .inl _ =>
    some (ByteArray.mk (List.toArray []))
   | .inr r2_0 =>
    some r2_0) = some (cutL s (inSet set) f p)
  | 0, p, _, hf => by omega
  | f + 1, p, hp, hf => by
    rw [runLoop_eq]
    by_cases hlt : p < s.size
    · have hd := decode_pos s p hlt
      simp only [chart_cutLeft_b2, decide_eq_true hlt, if_true, cutLeft_in s set h, Option.bind_some, cutL]
      cases hin : inSet set (Utf8.decode s p).1 with
      | true =>
        simp only [Bool.not_true, Bool.false_eq_true, if_false, if_true, Option.bind_some, if_pos hlt]
        exact cutLeft_go s set h f _ hd.2 (by omega)
      | false =>
        have h1 : (decide ((0 : Int) ≤ (p : Int)) && decide ((p : Int) ≤ (s.size : Int))) = true := by rw [Bool.and_eq_true, decide_eq_true_eq, decide_eq_true_eq]; omega
        simp only [Bool.not_false, if_true, h1, Option.bind_some, if_pos hlt, Bool.false_eq_true, if_false, Int.toNat_natCast]
    · simp only [chart_cutLeft_b2, decide_eq_false hlt, Bool.false_eq_true, if_false, Option.bind_some, cutL, if_neg hlt]
      rfl
theorem cutLeft_is (s set : ByteArray) (h : Low set) : chart_cutLeft s set = some (cutL s (inSet set) (s.size + 1) 0) := by
  unfold chart_cutLeft
  exact cutLeft_go s set h _ 0 (Nat.zero_le _) (by omega)

/-- The inner loop: is a rune in a set? -/
theorem cutRight_in (s set : ByteArray) (h : Low set) (c : Nat) (n : Int) : runLoop chart_cutRight_b5 (s, set, (c : Int), n, false, set, 0) = some (s, set, n, inSet set c) := by
  have hsz : set.data.toList.length = set.size := Array.length_toList
  refine runLoop_to (fun q : Nat => q ≤ set.size) (fun q => (s, set, (c : Int), n, (set.data.toList.take q).any (fun b => c == b.toNat), set, q)) (fun q => set.size - q) _ ?_ 0 (Nat.zero_le _)
  intro q hq
  by_cases hlt : q < set.size
  · left
    obtain ⟨b, hb⟩ : ∃ b, set.data.toList[q]? = some b := ⟨_, List.getElem?_eq_getElem (by omega)⟩
    have hd := decode_low set q b hb (h b (List.mem_of_getElem? hb))
    refine ⟨q + 1, ?_, hlt, by omega⟩
    simp only [chart_cutRight_b5, hd, decide_eq_true hlt, if_true]
    rw [List.take_add_one, hb, Option.toList_some, List.any_append]
    cases ha : (set.data.toList.take q).any (fun b => c == b.toNat) with
    | true => simp
    | false =>
      simp
      rw [Bool.eq_iff_iff, decide_eq_true_eq, beq_iff_eq]
      omega
  · right
    have : q = set.size := by omega
    subst this
    simp only [chart_cutRight_b5, decide_eq_false hlt]
    rw [List.take_of_length_le (by omega)]
    rfl
theorem cutRight_go (set : ByteArray) (h : Low set) : ∀ (f : Nat) (s : ByteArray), s.size ≤ f → s.size ≤ 9223372036854775807 → ((runLoop chart_cutRight_b1 (s, set)).bind fun r0_0 =>
   match r0_0 with
   | .inl r1_0 =>
    some r1_0
   | .inr r2_0 =>
    some r2_0) = some (cutR (inSet set) f s) := by
  intro f
  induction f with
  | zero =>
    intro s hf hs
    rw [runLoop_eq]
    have h0 : decide ((s.size : Int) > 0) = false := decide_eq_false (by omega)
    simp only [chart_cutRight_b1, h0, Bool.false_eq_true, if_false, Option.bind_some, cutR]
  | succ f ih =>
    intro s hf hs
    rw [runLoop_eq]
    by_cases hlt : 0 < s.size
    · have h0 : decide ((s.size : Int) > 0) = true := decide_eq_true (by omega)
      have hw := Lib.decodeLastL_width s.data.toList (by rw [Array.length_toList]; exact hlt)
      have hsl : s.data.toList.length = s.size := Array.length_toList
      rw [hsl] at hw
      simp only [chart_cutRight_b1, h0, if_true, utf8_DecodeLastRuneInString, if_pos hs, Option.bind_some, cutRight_in s set h, cutR, if_pos hlt]
      cases hin : inSet set (Lib.decodeLastL s.data.toList).1 with
      | false => simp only [Bool.not_false, if_true, Option.bind_some, Bool.false_eq_true, if_false]
      | true =>
        have hwr : IntKind.i64.wrap ((s.size : Int) - (Lib.decodeLastL s.data.toList).2) = ((s.size - (Lib.decodeLastL s.data.toList).2 : Nat) : Int) := by rw [wrap_i64] <;> omega
        have h1 : (decide ((0 : Int) ≤ ((s.size - (Lib.decodeLastL s.data.toList).2 : Nat) : Int)) && decide (((s.size - (Lib.decodeLastL s.data.toList).2 : Nat) : Int) ≤ (s.size : Int))) = true := by rw [Bool.and_eq_true, decide_eq_true_eq, decide_eq_true_eq]; omega
        simp only [Bool.not_true, Bool.false_eq_true, if_false, hwr, h1, if_true, Option.bind_some, Int.toNat_natCast]
        exact ih _ (by rw [ByteArray.size_extract]; omega) (by rw [ByteArray.size_extract]; omega)
    · have h0 : decide ((s.size : Int) > 0) = false := decide_eq_false (by omega)
      simp only [chart_cutRight_b1, h0, Bool.false_eq_true, if_false, Option.bind_some, cutR, if_neg hlt]
theorem cutRight_is (s set : ByteArray) (h : Low set) (hs : s.size ≤ 9223372036854775807) : chart_cutRight s set = some (cutR (inSet set) s.size s) := by
  unfold chart_cutRight
  exact cutRight_go set h _ s (Nat.le_refl _) hs

theorem made_is (s set : ByteArray) (l m : Int) (h : Low set) (hs : s.size ≤ 9223372036854775807) : chart_made s set l m = some (decide (l ≤ s.size) && decide (s.size ≤ m) && allIn set s) := by
  have hc : (cutL s (inSet set) (s.size + 1) 0).size ≤ s.size := by
    rcases cutL_spec s h (s.size + 1) 0 (by omega) (by omega) (by simp) with ⟨h1, _⟩ | ⟨q, hq, h1, _⟩
    · rw [h1]; exact Nat.zero_le _
    · rw [h1, ByteArray.size_extract]; omega
  unfold chart_made
  rw [cutLeft_is s set h]
  simp only [Option.bind_some]
  rw [cutRight_is _ set h (by omega)]
  simp only [Option.bind_some]
  have he : List.beq (cutR (inSet set) (cutL s (inSet set) (s.size + 1) 0).size (cutL s (inSet set) (s.size + 1) 0)).toList (ByteArray.mk (List.toArray [])).toList = allIn set s := by
    rw [← made_law set s h]
    have : (ByteArray.mk (List.toArray [])).toList = [] := by rw [ByteArray.toList_eq]
    rw [this]
    cases (cutR (inSet set) (cutL s (inSet set) (s.size + 1) 0).size (cutL s (inSet set) (s.size + 1) 0)).toList <;> rfl
  rw [he]
  by_cases h1 : l ≤ (s.size : Int)
  · by_cases h2 : (s.size : Int) ≤ m
    · simp [h1, h2]
    · simp [h1, h2]
  · simp [h1]
end Go.Pc

/- Tests that arithmetic decides, as rules: pure. -/
set_option linter.unusedVariables false
namespace Go.Pc
open Go Go.Sx
section
variable {α : Type} {P Q : Prop} [Decidable P] [Decidable Q] {a b : α}
theorem it1 (h : P) : (if decide P = true then a else b) = a := by rw [if_pos (decide_eq_true h)]
theorem it0 (h : ¬ P) : (if decide P = true then a else b) = b := by rw [if_neg (by simpa using h)]
theorem it2 (h : P) (h' : Q) : (if (decide P && decide Q) = true then a else b) = a := by rw [if_pos (by simp [h, h'])]
theorem itp1 (h : P) : (if P then a else b) = a := if_pos h
theorem itp0 (h : ¬ P) : (if P then a else b) = b := if_neg h
end
theorem itT {α : Type} {a b : α} : (if true = true then a else b) = a := rfl
theorem itF {α : Type} {a b : α} : (if false = true then a else b) = b := rfl
theorem getD_in {α : Type} (l : List α) (i : Nat) (d : α) (h : i < l.length) : l.getD i d = l[i] := by simp [List.getD, List.getElem?_eq_getElem h]
theorem take_succ' {α : Type} (l : List α) (i : Nat) (h : i < l.length) : l.take (i + 1) = l.take i ++ [l[i]] := by rw [List.take_add_one, List.getElem?_eq_getElem h]; rfl
theorem getD_last {α : Type} (r : List α) (x d : α) : (r ++ [x]).getD r.length d = x := by simp [List.getD]
theorem set_last {α : Type} (r : List α) (x y : α) : (r ++ [x]).set r.length y = r ++ [y] := by simp
end Go.Pc

/- tables.Merge, Outside, Union: what they come to: pure. -/
set_option linter.unusedVariables false
set_option linter.unusedSimpArgs false
namespace Go.Pc
open Go Go.Sx Go.Tx

/-- Spans merged. -/
def mrg (l : List Sp) : List Sp := (mAll (sortS (l.filter fun x => !badS x))).reverse
theorem okF {l : List Sp} (h : ∀ s ∈ l, okS s) : ∀ s ∈ sortS (l.filter fun x => !badS x), okS s ∧ s.1 ≤ s.2 := fun s hs => by
  have h1 := (sortS_perm _).mem_iff.1 hs
  obtain ⟨h2, h3⟩ := List.mem_filter.1 h1
  refine ⟨h s h2, ?_⟩
  simp only [badS, Bool.not_eq_true', decide_eq_false_iff_not] at h3
  omega
theorem mrg_inv {l : List Sp} (h : ∀ s ∈ l, okS s) : MInv (sortS (l.filter fun x => !badS x)) (mAll (sortS (l.filter fun x => !badS x))) :=
  mAll_inv (okF h) (sortS_ord _)
theorem mAll_len (L : List Sp) : ∀ acc : List Sp, (L.foldl mStep acc).length ≤ acc.length + L.length := by
  induction L with
  | nil => intro acc; simp
  | cons s L ih =>
    intro acc
    rw [List.foldl_cons]
    refine Nat.le_trans (ih _) ?_
    have : (mStep acc s).length ≤ acc.length + 1 := by
      cases acc with
      | nil => simp [mStep]
      | cons x r => rw [mStep_cons]; split <;> simp
    simp only [List.length_cons]
    omega
theorem mStep_in {x s : Sp} {r : List Sp} (h : x.2 = Top ∨ s.1 ≤ x.2 + 1) : mStep (x :: r) s = (x.1, max x.2 s.2) :: r := if_pos h
theorem mStep_out {x s : Sp} {r : List Sp} (h : ¬ (x.2 = Top ∨ s.1 ≤ x.2 + 1)) : mStep (x :: r) s = s :: x :: r := if_neg h
theorem mloop (L l0 : List Sp) (hL : ∀ s ∈ L, okS s ∧ s.1 ≤ s.2) (hn : L.length ≤ 1000000) (hp : L.Pairwise fun a b => a.1 ≤ b.1) :
    runLoop tables_Merge_b5 ((L.length : Int), (0 : Int), L, l0, []) = some ((mAll L).reverse, l0) := by
  refine runLoop_to (fun i : Nat => i ≤ L.length) (fun i : Nat => ((L.length : Int), (i : Int), L, l0, ((L.take i).foldl mStep []).reverse)) (fun i => L.length - i) _ ?_ 0 (Nat.zero_le _)
  intro i hi
  by_cases hlt : i < L.length
  · left
    refine ⟨i + 1, ?_, hlt, by omega⟩
    have hs := hL L[i] (List.getElem_mem hlt)
    have hinv : MInv (L.take i) ((L.take i).foldl mStep []) := mAll_inv (fun s hs => hL s (List.mem_of_mem_take hs)) (hp.sublist (List.take_sublist _ _))
    have hlen := hinv.len
    have htl : (L.take i).length ≤ i := by rw [List.length_take]; omega
    rw [take_succ' L i hlt, List.foldl_append]
    simp only [List.foldl_cons, List.foldl_nil]
    generalize (L.take i).foldl mStep [] = acc at hinv hlen ⊢
    have hwi : IntKind.i64.wrap ((i : Int) + 1) = ((i + 1 : Nat) : Int) := by rw [wrap_i64] <;> omega
    have hg := getD_in L i ((0 : Int), (0 : Int)) hlt
    cases acc with
    | nil =>
      have hw : IntKind.i64.wrap (((([] : List Sp).reverse.length : Nat) : Int) - 1) = -1 := by decide
      rw [tables_Merge_b5, hw, Int.toNat_natCast, hg, hwi]
      rw [it1 (by omega), it2 (by omega) (by omega), it1 (by omega), it0 (by omega), it1 (by simp)]
      rfl
    | cons x r =>
      have hx := hinv.top x List.mem_cons_self
      have hlr : r.length + 1 ≤ i := by simp only [List.length_cons] at hlen; omega
      have hrl : ((x :: r).reverse).length = r.length + 1 := by simp
      have hw : IntKind.i64.wrap ((((x :: r).reverse.length : Nat) : Int) - 1) = (r.length : Int) := by rw [hrl, wrap_i64] <;> omega
      have hgx : (x :: r).reverse.getD r.length ((0 : Int), (0 : Int)) = x := by
        rw [List.reverse_cons]
        have := getD_last r.reverse x ((0 : Int), (0 : Int))
        rwa [List.length_reverse] at this
      have hst : ∀ y, (x :: r).reverse.set r.length y = (y :: r).reverse := fun y => by
        rw [List.reverse_cons, List.reverse_cons]
        have := set_last r.reverse x y
        rwa [List.length_reverse] at this
      have hmax : (if L[i].2 > x.2 then L[i].2 else x.2) = max x.2 L[i].2 := by split <;> omega
      have hwu : x.2 ≠ 4294967295 → IntKind.u32.wrap (x.2 + 1) = x.2 + 1 := fun ht => by
        have := MR_head hinv.mr
        unfold Top at hx
        exact wrap_u32' _ (by omega) (by omega)
      rw [tables_Merge_b5, hw, Int.toNat_natCast, Int.toNat_natCast, hg, hwi, hgx, hst, hmax]
      rw [it1 (by omega), it2 (by omega) (by omega), it1 (by omega), it1 (by omega), it2 (by omega) (by rw [hrl]; omega), it1 (by rw [hrl]; omega)]
      by_cases ht : x.2 = 4294967295
      · rw [mStep_in (.inl ht), it1 ht, it2 (by omega) (by rw [hrl]; omega), it1 (by rw [hrl]; omega), it2 (by omega) (by rw [hrl]; omega), it1 (by rw [hrl]; omega)]
      · rw [it0 ht, hwu ht, it2 (by omega) (by rw [hrl]; omega), it1 (by rw [hrl]; omega)]
        by_cases hc : L[i].1 ≤ x.2 + 1
        · rw [mStep_in (.inr hc), it1 hc, it2 (by omega) (by rw [hrl]; omega), it1 (by rw [hrl]; omega), it2 (by omega) (by rw [hrl]; omega), it1 (by rw [hrl]; omega)]
        · rw [mStep_out (by unfold Top; omega), it0 hc, it1 (by rw [hrl]; simp only [List.length_cons, List.length_nil]; omega)]
          rw [List.reverse_cons (a := L[i])]
  · right
    have hie : i = L.length := by omega
    subst hie
    rw [tables_Merge_b5, it0 (by omega), List.take_length]
    rfl

theorem mrg_in {l : List Sp} (h : ∀ s ∈ l, okS s) (p : Int) (hp : p ≤ Top) : InL (mrg l) p ↔ InL l p := by
  unfold mrg
  rw [InL_rev, (mrg_inv h).same p hp, InL_perm (sortS_perm _)]
  constructor
  · rintro ⟨s, hs, h1⟩; exact ⟨s, (List.mem_filter.1 hs).1, h1⟩
  · rintro ⟨s, hs, h1⟩
    refine ⟨s, List.mem_filter.2 ⟨hs, ?_⟩, h1⟩
    simp only [badS, Bool.not_eq_true', decide_eq_false_iff_not]
    omega
theorem mrg_MF {l : List Sp} (h : ∀ s ∈ l, okS s) : MF (mrg l) := by
  unfold MF mrg
  rw [List.reverse_reverse]
  exact (mrg_inv h).mr
theorem mrg_len (l : List Sp) : (mrg l).length ≤ l.length := by
  unfold mrg
  rw [List.length_reverse]
  have h1 := mAll_len (sortS (l.filter fun x => !badS x)) []
  have h2 := (sortS_perm (l.filter fun x => !badS x)).length_eq
  have h3 := List.length_filter_le (fun x => !badS x) l
  unfold mAll
  simp only [List.length_nil] at h1
  omega
theorem mrg_ok {l : List Sp} (h : ∀ s ∈ l, okS s) : ∀ s ∈ mrg l, okS s ∧ s.1 ≤ s.2 := fun s hs => by
  have h1 := MF_ok (mrg_MF h) s hs
  have h2 := (mrg_inv h).top s (by unfold mrg at hs; exact List.mem_reverse.1 hs)
  unfold okS
  omega
theorem Merge_is {l : List Sp} (h : ∀ s ∈ l, okS s) (hn : l.length ≤ 1000000) : tables_Merge l = some (mrg l, l) := by
  have h2 := (sortS_perm (l.filter fun x => !badS x)).length_eq
  have h3 := List.length_filter_le (fun x => !badS x) l
  unfold tables_Merge slices_CloneR slices_Clone_sp slices_DeleteFunc slices_SortFunc
  rw [it1 (by omega)]
  simp only [Option.bind_some]
  rw [it1 (by omega)]
  simp only [Option.bind_some]
  rw [it1 (by omega)]
  simp only [Option.bind_some]
  rw [mloop _ l (okF h) (by omega) (sortS_ord _)]
  rfl
theorem Merge2_is {l : List Sp} (h : ∀ s ∈ l, okS s) (hn : l.length ≤ 1000000) : tables_Merge_i2 l = some (mrg l, l) := Merge_is h hn

/-! Outside. -/
theorem oloop (M l0 : List Sp) (hM : ∀ s ∈ M, okS s ∧ s.1 ≤ s.2) (hn : M.length ≤ 1000000) (ho : MF M) :
    ∃ fr acc done rest, runLoop tables_Outside_b4 ((0 : Int), (M.length : Int), (0 : Int), M, l0, []) = some (fr, acc.reverse, l0) ∧ OInv done rest acc fr ∧ done ++ rest = M ∧ ∀ s ∈ rest, Lst < s.1 ∨ Lst < fr := by
  obtain ⟨r, hr, fr, acc, done, rest, rfl, h1, h2, h3⟩ := runLoop_inv (b := tables_Outside_b4)
    (fun v => ∃ (i : Nat) (acc : List Sp) (fr : Int), v = (fr, (M.length : Int), (i : Int), M, l0, acc.reverse) ∧ i ≤ M.length ∧ OInv (M.take i) (M.drop i) acc fr) (fun v => ((M.length : Int) - v.2.2.1).toNat)
    (fun r => ∃ fr acc done rest, r = (fr, acc.reverse, l0) ∧ OInv done rest acc fr ∧ done ++ rest = M ∧ ∀ s ∈ rest, Lst < s.1 ∨ Lst < fr) (by
      rintro v ⟨i, acc, fr, rfl, hi, hI⟩
      have hlen := hI.len
      have htl : (M.take i).length ≤ i := by rw [List.length_take]; omega
      have hf := hI.fr0
      have eL : Lst = 1114111 := rfl
      by_cases hlt : i < M.length
      · have hs := hM M[i] (List.getElem_mem hlt)
        have hok := hs.1
        unfold okS Top at hok
        have hg := getD_in M i ((0 : Int), (0 : Int)) hlt
        have hwi : IntKind.i64.wrap ((i : Int) + 1) = ((i + 1 : Nat) : Int) := by rw [wrap_i64] <;> omega
        have hdr : M.drop i = M[i] :: M.drop (i + 1) := List.drop_eq_getElem_cons hlt
        have hord := (List.pairwise_append.1 hI.ord).2.1
        by_cases hb1 : M[i].1 > 1114111
        · right
          refine ⟨(fr, acc.reverse, l0), ?_, fr, acc, M.take i, M.drop i, rfl, hI, List.take_append_drop i M, fun s hs' => ?_⟩
          · rw [tables_Outside_b4, Int.toNat_natCast, hg, it1 (by omega), it2 (by omega) (by omega), it1 (by omega), it1 hb1]
          · rw [hdr] at hs' hord
            rcases List.mem_cons.1 hs' with rfl | hs'
            · left; omega
            · left
              have := (List.pairwise_cons.1 hord).1 s hs'
              omega
        · by_cases hb2 : fr > 1114111
          · right
            refine ⟨(fr, acc.reverse, l0), ?_, fr, acc, M.take i, M.drop i, rfl, hI, List.take_append_drop i M, fun s hs' => .inr (by omega)⟩
            rw [tables_Outside_b4, Int.toNat_natCast, hg, it1 (by omega), it2 (by omega) (by omega), it1 (by omega), it0 hb1, it1 hb2]
          · left
            have hst := OInv.step (done := M.take i) (rest := M.drop (i + 1)) (s := M[i]) (by rw [← hdr]; exact hI) (by omega) (by omega)
            rw [← take_succ' M i hlt] at hst
            have hmin : (if (1114111 : Int) < M[i].2 then (1114111 : Int) else M[i].2) = min M[i].2 Lst := by rw [eL]; split <;> omega
            have hw2 : IntKind.u32.wrap (min M[i].2 Lst + 1) = min M[i].2 Lst + 1 := wrap_u32' _ (by omega) (by omega)
            by_cases hc : M[i].1 > fr
            · have hw1 : IntKind.u32.wrap (M[i].1 - 1) = M[i].1 - 1 := wrap_u32' _ (by omega) (by omega)
              rw [if_pos hc] at hst
              refine ⟨(min M[i].2 Lst + 1, (M.length : Int), ((i + 1 : Nat) : Int), M, l0, ((fr, M[i].1 - 1) :: acc).reverse), ?_, ⟨i + 1, _, _, rfl, hlt, hst⟩, by simp only; omega⟩
              rw [tables_Outside_b4, Int.toNat_natCast, hg, it1 (by omega), it2 (by omega) (by omega), it1 (by omega), it0 hb1, it0 hb2, it1 hc, hmin, hw2, hw1, hwi, it1 (by simp only [List.length_cons, List.length_nil, List.length_reverse]; omega), List.reverse_cons]
            · rw [if_neg hc] at hst
              refine ⟨(min M[i].2 Lst + 1, (M.length : Int), ((i + 1 : Nat) : Int), M, l0, acc.reverse), ?_, ⟨i + 1, _, _, rfl, hlt, hst⟩, by simp only; omega⟩
              rw [tables_Outside_b4, Int.toNat_natCast, hg, it1 (by omega), it2 (by omega) (by omega), it1 (by omega), it0 hb1, it0 hb2, it0 hc, hmin, hw2, hwi]
      · right
        refine ⟨(fr, acc.reverse, l0), by rw [tables_Outside_b4, it0 (by omega)], fr, acc, M.take i, M.drop i, rfl, hI, List.take_append_drop i M, fun s hs' => ?_⟩
        rw [List.drop_of_length_le (by omega)] at hs'
        cases hs')
    ((0 : Int), (M.length : Int), ((0 : Nat) : Int), M, l0, ([] : List Sp).reverse) ⟨0, [], 0, rfl, Nat.zero_le _, by
      rw [List.take_zero, List.drop_zero]
      exact OInv.start (MF_pair ho) fun s hs => ⟨(hM s hs).1.1, (hM s hs).2⟩⟩
  exact ⟨fr, acc, done, rest, hr, h1, h2, h3⟩
theorem Outside_is {l : List Sp} (h : ∀ s ∈ l, okS s) (hn : l.length ≤ 1000000) :
    ∃ o, tables_Outside l = some (o, l) ∧ MF o ∧ (∀ p, 0 ≤ p → p ≤ Top → (InL o p ↔ ¬ InL l p ∧ p ≤ Lst)) ∧ (∀ s ∈ o, okS s) ∧ o.length ≤ l.length + 1 := by
  have hml := mrg_len l
  obtain ⟨fr, acc, done, rest, hr, hI, hdr, hrest⟩ := oloop (mrg l) l (mrg_ok h) (by omega) (mrg_MF h)
  obtain ⟨f1, f2, f3, f4⟩ := hI.fin hrest
  have hdl : done.length ≤ (mrg l).length := by rw [← hdr, List.length_append]; omega
  have hal := hI.len
  refine ⟨(oEnd acc fr).reverse, ?_, by unfold MF; rw [List.reverse_reverse]; exact f1, fun p h0 hp => ?_, fun s hs => ?_, by rw [List.length_reverse]; omega⟩
  · unfold tables_Outside
    rw [Merge_is h hn]
    simp only [Option.bind_some]
    rw [hr]
    simp only [Option.bind_some]
    unfold oEnd Lst
    by_cases hc : fr ≤ 1114111
    · rw [it1 hc, if_pos hc, it1 (by simp only [List.length_cons, List.length_nil, List.length_reverse]; omega), List.reverse_cons]
    · rw [it0 hc, if_neg hc]
  · rw [InL_rev, f2 p h0, hdr, mrg_in h p hp]
  · have := f4 s (List.mem_reverse.1 hs)
    have h5 := MR_ok f1 s (List.mem_reverse.1 hs)
    unfold okS Top
    unfold Lst at this
    omega
/-! Union. -/
theorem Concat_is (a b : List Sp) (h : a.length + b.length ≤ 1000000) : slices_Concat__ [a, b] = some (a ++ b, [a, b]) := by
  have w0 : IntKind.i64.wrap ((0 : Int) + ((a.length : Nat) : Int)) = (a.length : Int) := by rw [wrap_i64] <;> omega
  have w1 : IntKind.i64.wrap ((a.length : Int) + ((b.length : Nat) : Int)) = ((a.length + b.length : Nat) : Int) := by rw [wrap_i64] <;> omega
  have w2 : IntKind.i64.wrap ((0 : Int) + 1) = 1 := by decide
  have w3 : IntKind.i64.wrap ((1 : Int) + 1) = 2 := by decide
  have hl : (([a, b].length : Nat) : Int) = 2 := rfl
  have g0 : [a, b].getD 0 [] = a := rfl
  have g1 : [a, b].getD 1 [] = b := rfl
  have z0 : (0 : Int).toNat = 0 := rfl
  have z1 : (1 : Int).toNat = 1 := rfl
  unfold slices_Concat__
  have e0 : slices_Concat___b3 ((0 : Int), (([a, b].length : Nat) : Int), (0 : Int), [a, b]) = some (.inl ((a.length : Int), (([a, b].length : Nat) : Int), (1 : Int), [a, b])) := by
    rw [slices_Concat___b3, z0, g0, w0, w2, it1 (by rw [hl]; omega), it2 (by omega) (by rw [hl]; omega), it1 (by simp), it0 (by omega)]
  have e1 : slices_Concat___b3 ((a.length : Int), (([a, b].length : Nat) : Int), (1 : Int), [a, b]) = some (.inl (((a.length + b.length : Nat) : Int), (([a, b].length : Nat) : Int), (2 : Int), [a, b])) := by
    rw [slices_Concat___b3, z1, g1, w1, w3, it1 (by rw [hl]; omega), it2 (by omega) (by rw [hl]; omega), it1 (by simp), it0 (by omega)]
  have e2 : slices_Concat___b3 (((a.length + b.length : Nat) : Int), (([a, b].length : Nat) : Int), (2 : Int), [a, b]) = some (.inr (((a.length + b.length : Nat) : Int), [a, b])) := by
    rw [slices_Concat___b3, it0 (by rw [hl]; omega)]
  rw [runLoop_step e0, runLoop_step e1, runLoop_done e2]
  simp only [Option.bind_some]
  have hgr : slices_Grow ((a.length + b.length : Nat) : Int) = some () := by
    unfold slices_Grow
    rw [it2 (by omega) (by omega)]
  rw [hgr]
  simp only [Option.bind_some]
  have f0 : slices_Concat___b11 ((([a, b].length : Nat) : Int), (0 : Int), [], [a, b]) = some (.inl ((([a, b].length : Nat) : Int), (1 : Int), a, [a, b])) := by
    rw [slices_Concat___b11, z0, g0, w2, it1 (by rw [hl]; omega), it2 (by omega) (by rw [hl]; omega), it1 (by simp), it1 (by simp only [List.length_nil]; omega), List.nil_append]
  have f1 : slices_Concat___b11 ((([a, b].length : Nat) : Int), (1 : Int), a, [a, b]) = some (.inl ((([a, b].length : Nat) : Int), (2 : Int), a ++ b, [a, b])) := by
    rw [slices_Concat___b11, z1, g1, w3, it1 (by rw [hl]; omega), it2 (by omega) (by rw [hl]; omega), it1 (by simp), it1 (by omega)]
  have f2 : slices_Concat___b11 ((([a, b].length : Nat) : Int), (2 : Int), a ++ b, [a, b]) = some (.inr (a ++ b, [a, b])) := by
    rw [slices_Concat___b11, it0 (by rw [hl]; omega)]
  rw [runLoop_step f0, runLoop_step f1, runLoop_done f2]
  rfl
theorem Union_is {a b : List Sp} (ha : ∀ s ∈ a, okS s) (hb : ∀ s ∈ b, okS s) (h : a.length + b.length ≤ 1000000) : tables_Union [a, b] = some (mrg (a ++ b), [a, b]) := by
  unfold tables_Union
  rw [Concat_is a b h]
  simp only [Option.bind_some]
  rw [Merge2_is (fun s hs => (List.mem_append.1 hs).elim (ha s) (hb s)) (by rw [List.length_append]; omega)]
  rfl
/-! The document's answers. -/
def inB (l : List Sp) (x : Int) : Bool := l.any fun s => decide (s.1 ≤ x) && decide (x ≤ s.2)
theorem inB_iff (l : List Sp) (x : Int) : inB l x = true ↔ InL l x := by
  unfold inB InL
  simp [List.any_eq_true]
theorem has_eq (a b x : Int) : ref06_Has a b x = some (decide (a ≤ x) && decide (x ≤ b)) := by
  unfold ref06_Has
  by_cases h : a ≤ x
  · rw [it1 h]; simp [h]
  · rw [it0 h]; simp [h]
theorem In_is (x : Int) (l : List Sp) (h : l.length ≤ 1000000000) : ref06_In x l = some (inB l x, l) := by
  unfold ref06_In
  obtain ⟨r, hr, hQ⟩ := runLoop_inv (b := ref06_In_b2) (fun v => ∃ k : Nat, v = (x, (k : Int), l) ∧ k ≤ l.length ∧ inB (l.take k) x = false) (fun v => ((l.length : Int) - v.2.1).toNat)
    (fun r => (r = .inl (true, l) ∧ inB l x = true) ∨ (r = .inr l ∧ inB l x = false)) (by
      rintro v ⟨k, rfl, hk, hno⟩
      by_cases hlt : k < l.length
      · have hwi : IntKind.i64.wrap ((k : Int) + 1) = ((k + 1 : Nat) : Int) := by rw [wrap_i64] <;> omega
        have hg := getD_in l k ((0 : Int), (0 : Int)) hlt
        cases hc : (decide (l[k].1 ≤ x) && decide (x ≤ l[k].2)) with
        | true =>
          right
          refine ⟨.inl (true, l), ?_, .inl ⟨rfl, ?_⟩⟩
          · rw [ref06_In_b2, Int.toNat_natCast, hg, it1 (by omega), it2 (by omega) (by omega), it1 (by omega), has_eq, hc]
            rfl
          · unfold inB
            exact List.any_eq_true.2 ⟨l[k], List.getElem_mem hlt, hc⟩
        | false =>
          left
          refine ⟨(x, ((k + 1 : Nat) : Int), l), ?_, ⟨k + 1, rfl, hlt, ?_⟩, by simp only; omega⟩
          · rw [ref06_In_b2, Int.toNat_natCast, hg, it1 (by omega), it2 (by omega) (by omega), it1 (by omega), has_eq, hc, hwi]
            rfl
          · rw [take_succ' l k hlt]
            unfold inB at hno ⊢
            rw [List.any_append, hno]
            simp only [List.any_cons, List.any_nil, hc, Bool.or_false]
      · right
        refine ⟨.inr l, by rw [ref06_In_b2, it0 (by omega)], .inr ⟨rfl, ?_⟩⟩
        rwa [List.take_of_length_le (by omega)] at hno)
    (x, ((0 : Nat) : Int), l) ⟨0, rfl, Nat.zero_le _, rfl⟩
  have hr' : runLoop ref06_In_b2 (x, (0 : Int), l) = some r := hr
  rw [hr']
  rcases hQ with ⟨rfl, h2⟩ | ⟨rfl, h2⟩ <;> rw [h2] <;> rfl
theorem In2_is (x : Int) (l : List Sp) (h : l.length ≤ 1000000000) : ref06_In_i2 x l = some (inB l x, l) := In_is x l h
theorem Merged_is {l : List Sp} (hM : MF l) (hk : ∀ s ∈ l, okS s) (h : l.length ≤ 1000000) : ref08_Merged l = some (true, l) := by
  unfold ref08_Merged
  have key : runLoop ref08_Merged_b2 ((0 : Int), l) = some (.inr l) := by
    refine runLoop_to (fun i : Nat => i ≤ l.length) (fun i : Nat => ((i : Int), l)) (fun i => l.length - i) _ ?_ 0 (Nat.zero_le _)
    intro i hi
    by_cases hlt : i < l.length
    · left
      refine ⟨i + 1, ?_, hlt, by omega⟩
      have hwi : IntKind.i64.wrap ((i : Int) + 1) = ((i + 1 : Nat) : Int) := by rw [wrap_i64] <;> omega
      have hg := getD_in l i ((0 : Int), (0 : Int)) hlt
      have hv := MF_ok hM l[i] (List.getElem_mem hlt)
      rw [ref08_Merged_b2, Int.toNat_natCast, hg, hwi, it1 (by omega), it2 (by omega) (by omega), it1 (by omega), it2 (by omega) (by omega), it1 (by omega), it0 (by omega)]
      rcases Nat.eq_zero_or_pos i with h0 | h0
      · subst h0
        rw [it0 (by omega)]
      · obtain ⟨j, rfl⟩ : ∃ j, i = j + 1 := ⟨i - 1, by omega⟩
        have hwj : IntKind.i64.wrap (((j + 1 : Nat) : Int) - 1) = (j : Int) := by rw [wrap_i64] <;> omega
        have hgj := getD_in l j ((0 : Int), (0 : Int)) (by omega)
        have hgap := MF_at hM (i := j) (x := l[j]'(by omega)) (y := l[j + 1]) (List.getElem?_eq_getElem (by omega)) (List.getElem?_eq_getElem hlt)
        have hk1 := hk l[j + 1] (List.getElem_mem hlt)
        have hk0 := hk (l[j]'(by omega)) (List.getElem_mem (by omega))
        unfold okS Top at hk1 hk0
        have hwu : IntKind.u32.wrap (l[j + 1].1 - (l[j]'(by omega)).2) = l[j + 1].1 - (l[j]'(by omega)).2 := wrap_u32' _ (by omega) (by omega)
        rw [hwj, Int.toNat_natCast, hgj, hwu, it1 (by omega), it2 (by omega) (by omega), it1 (by omega), it2 (by omega) (by omega), it1 (by omega), it0 (by omega), it2 (by omega) (by omega), it1 (by omega), it2 (by omega) (by omega), it1 (by omega), it0 (by omega)]
    · right
      rw [ref08_Merged_b2, it0 (by omega)]
  rw [key]
  rfl
end Go.Pc

/- A code point's text: pure. -/
set_option linter.unusedVariables false
set_option linter.unusedSimpArgs false
set_option maxRecDepth 100000
namespace Go.Pc
open Go Go.Sx Go.Tx

def hexD (b : UInt8) : Prop := (48 ≤ b.toNat ∧ b.toNat ≤ 57) ∨ (65 ≤ b.toNat ∧ b.toNat ≤ 70)
def hexV (b : UInt8) : Nat := if b.toNat ≤ 57 then b.toNat - 48 else b.toNat - 55
def hexN (l : List UInt8) : Nat := l.foldl (fun n b => n * 16 + hexV b) 0

theorem hexV_lt {b : UInt8} (h : hexD b) : hexV b < 16 := by
  unfold hexV
  rcases h with h | h
  · rw [if_pos h.2]; omega
  · rw [if_neg (by omega)]; omega

theorem hexN_lt (l : List UInt8) (h : ∀ b ∈ l, hexD b) : hexN l < 16 ^ l.length := by
  have key : ∀ (l : List UInt8) (a k : Nat), (∀ b ∈ l, hexD b) → a < 16 ^ k → l.foldl (fun n b => n * 16 + hexV b) a < 16 ^ (k + l.length) := by
    intro l
    induction l with
    | nil => intro a k _ ha; exact ha
    | cons b r ih =>
      intro a k h ha
      rw [List.foldl_cons, List.length_cons, Nat.add_comm r.length 1, ← Nat.add_assoc]
      refine ih _ (k + 1) (fun b hb => h b (by simp [hb])) ?_
      have := hexV_lt (h b (by simp))
      rw [Nat.pow_succ]
      omega
  have := key l 0 0 h (by simp)
  rwa [Nat.zero_add] at this

def digitsB : ByteArray := ⟨#[48, 49, 50, 51, 52, 53, 54, 55, 56, 57, 65, 66, 67, 68, 69, 70]⟩
/-- Four to six digits of base 16; more than four don't begin with 0. -/
def isPt (s : ByteArray) : Bool := decide (4 ≤ s.size) && decide (s.size ≤ 6) && allIn digitsB s && !(decide (4 < s.size) && (s.data.toList.getD 0 0 == 48))
def ptN (s : ByteArray) : Nat := if isPt s then hexN s.data.toList else 0
def ptOK (s : ByteArray) : Bool := isPt s && decide (hexN s.data.toList ≤ 1114111)

theorem low_digits : Low digitsB := by unfold Low digitsB; decide
theorem hexD_of {s : ByteArray} (h : allIn digitsB s = true) : ∀ b ∈ s.data.toList, hexD b := by
  intro b hb
  unfold allIn at h
  rw [List.all_eq_true] at h
  have := h b hb
  unfold digitsB at this
  simp at this
  unfold hexD
  rcases this with h | h | h | h | h | h | h | h | h | h | h | h | h | h | h | h <;> subst h <;> decide


theorem lower_is (c : Nat) (h1 : 65 ≤ c) (h2 : c ≤ 70) : internal_strconv_lower (c : Int) = some ((c : Int) + 32) := by
  have : c = 65 ∨ c = 66 ∨ c = 67 ∨ c = 68 ∨ c = 69 ∨ c = 70 := by omega
  rcases this with rfl | rfl | rfl | rfl | rfl | rfl <;> decide

theorem getD_map_toNat (L : List UInt8) (i : Nat) (b : UInt8) (h : L[i]? = some b) : (L.map (fun x : UInt8 => ((x.toNat : Nat) : Int))).getD i 0 = (b.toNat : Int) := by
  rw [List.getD_eq_getElem?_getD, List.getElem?_map, h]; rfl

theorem parse_loop (s : ByteArray) (h2 : s.size ≤ 6) (h3 : ∀ b ∈ s.data.toList, hexD b) :
    runLoop internal_strconv_ParseUint_b36 (false, s, false, 0, ((s.data.toList.map (fun x : UInt8 => ((x.toNat : Nat) : Int))).length : Int), 0, s.data.toList.map (fun x : UInt8 => ((x.toNat : Nat) : Int))) = some (.inr (s, false, (hexN s.data.toList : Int))) := by
  have hsz : s.data.toList.length = s.size := Array.length_toList
  generalize hL : s.data.toList = L at *
  have hlen : (L.map (fun x : UInt8 => ((x.toNat : Nat) : Int))).length = L.length := List.length_map _
  refine runLoop_to (fun i : Nat => i ≤ L.length) (fun i : Nat => (false, s, false, ((hexN (L.take i) : Nat) : Int), ((L.map (fun x : UInt8 => ((x.toNat : Nat) : Int))).length : Int), (i : Int), L.map (fun x : UInt8 => ((x.toNat : Nat) : Int)))) (fun i => L.length - i) _ ?_ 0 (Nat.zero_le _)
  intro i hi
  by_cases hlt : i < L.length
  · left
    refine ⟨i + 1, ?_, hlt, by omega⟩
    obtain ⟨b, hb⟩ : ∃ b, L[i]? = some b := ⟨_, List.getElem?_eq_getElem hlt⟩
    have hbd := h3 b (List.mem_of_getElem? hb)
    have hn : hexN (L.take i) ≤ 1048575 := by
      have := hexN_lt (L.take i) (fun b hb => h3 b (List.mem_of_mem_take hb))
      have hl : (L.take i).length ≤ 5 := by rw [List.length_take]; omega
      have : 16 ^ (L.take i).length ≤ 16 ^ 5 := Nat.pow_le_pow_right (by omega) hl
      omega
    have hst : hexN (L.take (i + 1)) = hexN (L.take i) * 16 + hexV b := by
      rw [List.take_add_one, hb]
      simp [hexN]
    rw [hst]
    generalize hexN (L.take i) = n at *
    have w1 : IntKind.u8.wrap 16 = 16 := by decide
    have w2 : IntKind.u64.wrap 16 = 16 := by decide
    have w3 : IntKind.u64.wrap ((n : Int) * 16) = n * 16 := by rw [IntKind.wrap_u64]; omega
    have w4 : IntKind.i64.wrap ((i : Int) + 1) = ((i + 1 : Nat) : Int) := by rw [wrap_i64] <;> omega
    have d0 : decide ((i : Int) < (L.length : Int)) = true := decide_eq_true (by omega)
    have d1 : decide ((0 : Int) ≤ (i : Int)) = true := decide_eq_true (by omega)
    have d2 : decide ((n : Int) ≥ 1152921504606846976) = false := decide_eq_false (by omega)
    have g := getD_map_toNat L i b hb
    rcases hbd with ⟨e1, e2⟩ | ⟨e1, e2⟩
    · have hv : hexV b = b.toNat - 48 := by unfold hexV; rw [if_pos e2]
      have w5 : IntKind.u8.wrap ((b.toNat : Int) - 48) = ((b.toNat - 48 : Nat) : Int) := by rw [IntKind.wrap_u8]; omega
      have w6 : IntKind.u64.wrap ((b.toNat - 48 : Nat) : Int) = ((b.toNat - 48 : Nat) : Int) := by rw [IntKind.wrap_u64]; omega
      have w7 : IntKind.u64.wrap ((n : Int) * 16 + ((b.toNat - 48 : Nat) : Int)) = ((n * 16 + (b.toNat - 48) : Nat) : Int) := by rw [IntKind.wrap_u64]; omega
      have c1 : decide ((b.toNat : Int) = 95) = false := decide_eq_false (by omega)
      have c2 : decide ((48 : Int) ≤ b.toNat) = true := decide_eq_true (by omega)
      have c3 : decide ((b.toNat : Int) ≤ 57) = true := decide_eq_true (by omega)
      have c4 : decide (((b.toNat - 48 : Nat) : Int) ≥ 16) = false := decide_eq_false (by omega)
      have c5 : decide (((n * 16 + (b.toNat - 48) : Nat) : Int) < (n : Int) * 16) = false := decide_eq_false (by omega)
      have c6 : decide (((n * 16 + (b.toNat - 48) : Nat) : Int) > 4294967295) = false := decide_eq_false (by omega)
      simp only [internal_strconv_ParseUint_b36, hlen, d0, d1, Int.toNat_natCast, decide_eq_true hlt, Bool.and_self, if_true, g, c1, Bool.false_eq_true, if_false, c2, c3, w1, w2, w3, w4, w5, w6, w7, c4, d2, c5, c6, hv]
    · have hv : hexV b = b.toNat - 55 := by unfold hexV; rw [if_neg (by omega)]
      have lw := lower_is b.toNat e1 e2
      have w5 : IntKind.u8.wrap ((b.toNat : Int) + 32 - 97) = ((b.toNat - 65 : Nat) : Int) := by rw [IntKind.wrap_u8]; omega
      have w6 : IntKind.u8.wrap (((b.toNat - 65 : Nat) : Int) + 10) = ((b.toNat - 55 : Nat) : Int) := by rw [IntKind.wrap_u8]; omega
      have w8 : IntKind.u64.wrap ((b.toNat - 55 : Nat) : Int) = ((b.toNat - 55 : Nat) : Int) := by rw [IntKind.wrap_u64]; omega
      have w7 : IntKind.u64.wrap ((n : Int) * 16 + ((b.toNat - 55 : Nat) : Int)) = ((n * 16 + (b.toNat - 55) : Nat) : Int) := by rw [IntKind.wrap_u64]; omega
      have c1 : decide ((b.toNat : Int) = 95) = false := decide_eq_false (by omega)
      have c2 : decide ((48 : Int) ≤ b.toNat) = true := decide_eq_true (by omega)
      have c3 : decide ((b.toNat : Int) ≤ 57) = false := decide_eq_false (by omega)
      have c4 : decide (((b.toNat - 55 : Nat) : Int) ≥ 16) = false := decide_eq_false (by omega)
      have c5 : decide (((n * 16 + (b.toNat - 55) : Nat) : Int) < (n : Int) * 16) = false := decide_eq_false (by omega)
      have c6 : decide (((n * 16 + (b.toNat - 55) : Nat) : Int) > 4294967295) = false := decide_eq_false (by omega)
      have c7 : decide ((97 : Int) ≤ (b.toNat : Int) + 32) = true := decide_eq_true (by omega)
      have c8 : decide ((b.toNat : Int) + 32 ≤ 122) = true := decide_eq_true (by omega)
      simp only [internal_strconv_ParseUint_b36, hlen, d0, d1, Int.toNat_natCast, decide_eq_true hlt, Bool.and_self, if_true, g, c1, Bool.false_eq_true, if_false, c2, c3, lw, Option.bind_some, c7, c8, w1, w2, w3, w4, w5, w6, w7, w8, c4, d2, c5, c6, hv]
  · right
    have : i = L.length := by omega
    subst this
    have d0 : decide ((L.length : Int) < (L.length : Int)) = false := decide_eq_false (by omega)
    simp only [internal_strconv_ParseUint_b36, hlen, d0, Bool.false_eq_true, if_false]
    rw [List.take_of_length_le (Nat.le_refl _)]

theorem parse_is (s : ByteArray) (h1 : 1 ≤ s.size) (h2 : s.size ≤ 6) (h3 : ∀ b ∈ s.data.toList, hexD b) : strconv_ParseUint s = some (hexN s.data.toList : Int) := by
  have hsz : s.data.toList.length = s.size := Array.length_toList
  have hne : List.beq (ByteArray.toList s) (ByteArray.toList (ByteArray.mk (List.toArray []))) = false := by
    rw [ByteArray.toList_eq, ByteArray.toList_eq]
    cases hq : s.data.toList with
    | nil => rw [hq] at hsz; simp at hsz; omega
    | cons x r => rfl
  unfold strconv_ParseUint internal_strconv_ParseUint
  simp only [hne, Bool.false_eq_true, if_false, decide_eq_true (by omega : s.size ≤ 9223372036854775807), if_true]
  rw [parse_loop s h2 h3]
  rfl

theorem digits_eq : (ByteArray.mk (List.toArray [(48 : UInt8), (49 : UInt8), (50 : UInt8), (51 : UInt8), (52 : UInt8), (53 : UInt8), (54 : UInt8), (55 : UInt8), (56 : UInt8), (57 : UInt8), (65 : UInt8), (66 : UInt8), (67 : UInt8), (68 : UInt8), (69 : UInt8), (70 : UInt8)])) = digitsB := rfl

theorem point_is (s : ByteArray) (hs : s.size ≤ 9223372036854775807) : chart_point s = some ((ptN s : Int), ptOK s) := by
  unfold chart_point
  rw [digits_eq, made_is s digitsB 4 6 low_digits hs]
  simp only [Option.bind_some]
  by_cases hm : (decide ((4 : Int) ≤ (s.size : Int)) && decide ((s.size : Int) ≤ 6) && allIn digitsB s) = true
  · have hm' := hm
    simp only [Bool.and_eq_true, decide_eq_true_eq] at hm'
    obtain ⟨⟨h4, h6⟩, ha⟩ := hm'
    have hx := hexD_of ha
    have hb : hexN s.data.toList < 16 ^ 6 := by
      have h1 := hexN_lt s.data.toList hx
      have h2 : s.data.toList.length = s.size := Array.length_toList
      have : 16 ^ s.data.toList.length ≤ 16 ^ 6 := Nat.pow_le_pow_right (by omega) (by omega)
      omega
    have hu : IntKind.u32.wrap (hexN s.data.toList : Int) = hexN s.data.toList := by rw [IntKind.wrap_u32]; omega
    have hp := parse_is s (by omega) (by omega) hx
    have hle : decide ((hexN s.data.toList : Int) ≤ 1114111) = decide (hexN s.data.toList ≤ 1114111) := by rw [Bool.eq_iff_iff, decide_eq_true_eq, decide_eq_true_eq]; omega
    simp only [hm, Bool.not_true, Bool.false_eq_true, if_false, hp, Option.bind_some, hu, hle]
    have e4 : decide (4 ≤ s.size) = true := decide_eq_true (by omega)
    have e6 : decide (s.size ≤ 6) = true := decide_eq_true (by omega)
    by_cases h5 : 4 < s.size
    · have g5 : decide ((s.size : Int) > 4) = true := decide_eq_true (by omega)
      have g0 : decide ((0 : Int) < (s.size : Int)) = true := decide_eq_true (by omega)
      simp only [g5, g0, if_true]
      by_cases hz : s.data.toList.getD 0 0 = 48
      · have : decide (((s.data.toList.getD 0 (0 : UInt8)).toNat : Int) = 48) = true := decide_eq_true (by show ((s.data.toList.getD 0 0).toNat : Int) = 48; rw [hz]; rfl)
        simp only [this, if_true]
        have hf : isPt s = false := by unfold isPt; rw [e4, e6, ha, decide_eq_true h5, hz]; rfl
        simp [ptN, ptOK, hf]
      · have : decide (((s.data.toList.getD 0 (0 : UInt8)).toNat : Int) = 48) = false := decide_eq_false (fun e => hz (UInt8.toNat_inj.1 (by have : (48 : UInt8).toNat = 48 := rfl; have e' : ((s.data.toList.getD 0 0).toNat : Int) = 48 := e; omega)))
        simp only [this, Bool.false_eq_true, if_false]
        have hf : isPt s = true := by unfold isPt; rw [e4, e6, ha, decide_eq_true h5]; simp; simpa using hz
        simp [ptN, ptOK, hf]
    · have g5 : decide ((s.size : Int) > 4) = false := decide_eq_false (by omega)
      simp only [g5, Bool.false_eq_true, if_false]
      have hf : isPt s = true := by unfold isPt; rw [e4, e6, ha, decide_eq_false h5]; rfl
      simp [ptN, ptOK, hf]
  · have hm0 : (decide ((4 : Int) ≤ (s.size : Int)) && decide ((s.size : Int) ≤ 6) && allIn digitsB s) = false := by simpa using hm
    simp only [hm0, Bool.not_false, if_true]
    have hf : isPt s = false := by
      unfold isPt
      have e4 : decide (4 ≤ s.size) = decide ((4 : Int) ≤ (s.size : Int)) := by rw [Bool.eq_iff_iff, decide_eq_true_eq, decide_eq_true_eq]; omega
      have e6 : decide (s.size ≤ 6) = decide ((s.size : Int) ≤ 6) := by rw [Bool.eq_iff_iff, decide_eq_true_eq, decide_eq_true_eq]; omega
      rw [e4, e6, hm0]; rfl
    simp [ptN, ptOK, hf]

def spanOK (a b : ByteArray) : Bool := ptOK a && ptOK b && decide (ptN a ≤ ptN b)
theorem span_is (a b : ByteArray) (ha : a.size ≤ 9223372036854775807) (hb : b.size ≤ 9223372036854775807) : chart_span a b = some (spanOK a b, (ptN a : Int), (ptN b : Int)) := by
  unfold chart_span
  rw [point_is a ha, point_is b hb]
  simp only [Option.bind_some]
  have e : decide ((ptN a : Int) ≤ (ptN b : Int)) = decide (ptN a ≤ ptN b) := by rw [Bool.eq_iff_iff, decide_eq_true_eq, decide_eq_true_eq]; omega
  unfold spanOK
  cases ptOK a <;> cases ptOK b <;> simp [e]
end Go.Pc

/- strings.Split at one byte: pure. -/
set_option linter.unusedVariables false
set_option linter.unusedSimpArgs false
namespace Go.Pc
open Go Go.Sx Go.Tx

/-- A text at a byte: what is between. -/
def spl (c : UInt8) : List UInt8 → List (List UInt8)
  | [] => [[]]
  | b :: r => if b = c then [] :: spl c r else match spl c r with
    | [] => [[b]]
    | w :: ws => (b :: w) :: ws

theorem spl_ne (c : UInt8) : ∀ l, spl c l ≠ []
  | [] => by simp [spl]
  | b :: r => by
    unfold spl
    split
    · simp
    · split <;> simp

theorem splitK_spl (c : UInt8) : ∀ s : List UInt8, Lib.splitK [c] 0 (Lib.count s [c]) s = spl c s
  | [] => by rw [Lib.count_one]; rfl
  | b :: l => by
    have ih := splitK_spl c l
    by_cases h : b = c
    · subst h
      have hix : Lib.index (b :: l) [b] = ((0 : Nat) : Int) := by rw [Lib.index]; simp [List.isPrefixOf]
      rw [Lib.count_cons_eq, Nat.add_comm 1, Lib.splitK, if_neg (by rw [hix]; simp), hix, spl, if_pos rfl]
      simpa using ih
    · rw [Lib.count_cons_ne b c l h, spl, if_neg h, ← ih]
      have hp : ([c] : List UInt8).isPrefixOf (b :: l) = false := by simp [List.isPrefixOf, Ne.symm h]
      have hix : Lib.index (b :: l) [c] = if Lib.index l [c] == -1 then -1 else Lib.index l [c] + 1 := by rw [Lib.index, hp]; simp
      generalize Lib.count l [c] = k
      cases k with
      | zero => rfl
      | succ k =>
        by_cases hm : Lib.index l [c] = -1
        · rw [Lib.splitK, Lib.splitK, if_pos (by rw [hix, hm]; rfl), if_pos (by rw [hm]; rfl)]
        · have hge := Lib.index_ge l [c]
          obtain ⟨j, hj⟩ : ∃ j : Nat, Lib.index l [c] = j := ⟨(Lib.index l [c]).toNat, by omega⟩
          have hix' : Lib.index (b :: l) [c] = ((j + 1 : Nat) : Int) := by rw [hix, if_neg (fun e => hm (beq_iff_eq.1 e)), hj]; omega
          have n1 : ¬ ((Lib.index (b :: l) [c] == -1) = true) := fun e => by have := beq_iff_eq.1 e; omega
          have n2 : ¬ ((Lib.index l [c] == -1) = true) := fun e => by have := beq_iff_eq.1 e; omega
          rw [Lib.splitK, Lib.splitK, if_neg n1, if_neg n2, hix', hj]
          simp only [Int.toNat_natCast, Nat.add_zero, List.length_cons, List.length_nil, List.take_succ_cons, Nat.zero_add]
          rw [show j + 1 + 1 = (j + 1) + 1 from rfl, List.drop_succ_cons]

/-- The words between, as texts. -/
def spB (c : UInt8) (s : ByteArray) : List ByteArray := (spl c s.data.toList).map (fun l => ⟨l.toArray⟩)

theorem bytes_of (s : ByteArray) : (⟨s.data.toList.toArray⟩ : ByteArray) = s := by cases s; simp

theorem splitB_spl (c : UInt8) (s : ByteArray) : Lib.splitB ⟨#[c]⟩ 0 (Lib.countB s ⟨#[c]⟩) s = spB c s := by
  have h := Lib.splitB_data ⟨#[c]⟩ 0 (Lib.countB s ⟨#[c]⟩) s
  have h2 : Lib.countB s ⟨#[c]⟩ = Lib.count s.data.toList [c] := rfl
  have h3 := splitK_spl c s.data.toList
  unfold spB
  rw [← h3, ← h2, ← h, List.map_map]
  conv => lhs; rw [← List.map_id (Lib.splitB _ _ _ _)]
  apply List.map_congr_left
  intro x _
  simp [bytes_of]

theorem split_is (c : UInt8) (s : ByteArray) (h : s.size < 4294967281) : strings_Split s (ByteArray.mk (List.toArray [c])) = some (spB c s) := by
  have : (1 : Nat) ≤ (ByteArray.mk (List.toArray [c])).size := by simp [ByteArray.size]
  rw [strings_Split, if_pos ⟨h, this⟩]
  exact congrArg some (splitB_spl c s)

theorem spl_len (c : UInt8) : ∀ s : List UInt8, (spl c s).length ≤ s.length + 1
  | [] => by simp [spl]
  | b :: r => by
    have := spl_len c r
    unfold spl
    split
    · simp; omega
    · split
      · simp
      · rename_i h; rw [h] at this; simp at this ⊢; omega

theorem spl_word (c : UInt8) : ∀ (s : List UInt8) (w), w ∈ spl c s → w.length ≤ s.length
  | [], w, h => by simp [spl] at h; subst h; simp
  | b :: r, w, h => by
    unfold spl at h
    split at h
    · rcases List.mem_cons.1 h with rfl | h
      · simp
      · have := spl_word c r w h; simp; omega
    · split at h
      · simp at h; subst h; simp
      · rename_i w' ws e
        rcases List.mem_cons.1 h with rfl | h
        · have := spl_word c r w' (by rw [e]; simp); simp; omega
        · have := spl_word c r w (by rw [e]; simp [h]); simp; omega

theorem spB_len (c : UInt8) (s : ByteArray) : (spB c s).length ≤ s.size + 1 := by
  have := spl_len c s.data.toList
  rw [spB, List.length_map]
  rwa [Array.length_toList] at this
theorem spB_word (c : UInt8) (s w : ByteArray) (h : w ∈ spB c s) : w.size ≤ s.size := by
  obtain ⟨l, hl, rfl⟩ := List.mem_map.1 h
  have := spl_word c s.data.toList l hl
  rw [Array.length_toList] at this
  show l.toArray.size ≤ s.data.size
  rwa [List.size_toArray]
end Go.Pc

/- Charts read, line by line: pure; what the printed functions come to. -/
set_option linter.unusedVariables false
set_option linter.unusedSimpArgs false
set_option maxRecDepth 100000
namespace Go.Pc
open Go Go.Sx Go.Tx

/-- Lines read one behind the other; or the number of the first one that isn't taken. -/
def readR {T : Type} (one : List ByteArray → List T → Option T) : List (List ByteArray) → List T → Nat → List T ⊕ Nat
  | [], acc, _ => .inl acc
  | w :: r, acc, i => match one w acc with
    | none => .inr (i + 1)
    | some x => readR one r (acc ++ [x]) (i + 1)
def linesOf (s : ByteArray) : List (List ByteArray) := if s.size = 0 then [] else (spB 10 s).map (spB 32)
def resR {T : Type} (r : List T ⊕ Nat) : Int × Int × List T := match r with
  | .inl l => (0, 0, l)
  | .inr k => (3, (k : Int), [])
def outR {T : Type} (r : List T ⊕ Nat) : List T ⊕ (Int × Int) := match r with
  | .inl l => .inl l
  | .inr k => .inr (3, (k : Int))

theorem beq_nil (s : ByteArray) : List.beq (ByteArray.toList s) (ByteArray.toList (ByteArray.mk (List.toArray []))) = decide (s.size = 0) := by
  have hsz : s.data.toList.length = s.size := Array.length_toList
  rw [ByteArray.toList_eq, ByteArray.toList_eq]
  cases hq : s.data.toList with
  | nil => rw [hq] at hsz; simp at hsz; rw [decide_eq_true hsz.symm]; rfl
  | cons x r => rw [hq] at hsz; simp at hsz; rw [decide_eq_false (by omega)]; rfl

theorem read_go {T : Type} (b : Int × Int × List ByteArray × List T → Option ((Int × Int × List ByteArray × List T) ⊕ (List T ⊕ (Int × Int)))) (one : List ByteArray → List T → Option T) (L : List ByteArray)
    (hend : ∀ acc, b ((L.length : Int), (L.length : Int), L, acc) = some (.inr (.inl acc)))
    (hstep : ∀ (i : Nat) (acc : List T) (w : ByteArray), L[i]? = some w → acc.length = i → i < L.length → b ((L.length : Int), (i : Int), L, acc) = some (match one (spB 32 w) acc with
      | none => .inr (.inr (3, ((i + 1 : Nat) : Int)))
      | some x => .inl ((L.length : Int), ((i + 1 : Nat) : Int), L, acc ++ [x]))) :
    ∀ (n i : Nat) (acc : List T), n + i = L.length → acc.length = i → runLoop b ((L.length : Int), (i : Int), L, acc) = some (outR (readR one ((L.drop i).map (spB 32)) acc i)) := by
  intro n
  induction n with
  | zero =>
    intro i acc h1 h2
    have : i = L.length := by omega
    subst this
    rw [runLoop_done (hend acc), List.drop_length]; rfl
  | succ n ih =>
    intro i acc h1 h2
    have hi : i < L.length := by omega
    have hs := hstep i acc L[i] (List.getElem?_eq_getElem hi) h2 hi
    rw [List.drop_eq_getElem_cons hi, List.map_cons]
    unfold readR
    cases ho : one (spB 32 L[i]) acc with
    | none => rw [ho] at hs; rw [runLoop_done hs]; rfl
    | some x => rw [ho] at hs; rw [runLoop_step hs]; exact ih (i + 1) (acc ++ [x]) (by omega) (by simp [h2])

def behindI (e : Option Int) (f : Int) : Bool := match e with
  | none => true
  | some x => decide (x < f)
theorem last_cases {T : Type} (l : List T) : l = [] ∨ ∃ i x, l = i ++ [x] := by
  rcases List.eq_nil_or_concat l with h | ⟨i, x, h⟩
  · exact .inl h
  · exact .inr ⟨i, x, by rw [h, List.concat_eq_append]⟩
theorem getD_lst {T : Type} (i : List T) (x d : T) : (i ++ [x]).getD i.length d = x := by simp [List.getD]
theorem lt_cast (a b : Nat) : decide ((a : Int) < (b : Int)) = decide (a < b) := by rw [Bool.eq_iff_iff, decide_eq_true_eq, decide_eq_true_eq]; omega

theorem behindWeight_is (x y : Int) (l : List (Int × Int × Int)) (h : l.length ≤ 1000000) : chart_behind_Weight x y l = some (behindI (l.getLast?.map (fun e => e.2.1)) x, l) := by
  rcases last_cases l with rfl | ⟨i, e, rfl⟩
  · rfl
  · have hl : (i ++ [e]).length = i.length + 1 := by simp
    have hw : IntKind.i64.wrap ((((i ++ [e]).length : Nat) : Int) - 1) = (i.length : Int) := by rw [hl] at h ⊢; rw [wrap_i64] <;> omega
    have h0 : decide ((((i ++ [e]).length : Nat) : Int) = 0) = false := decide_eq_false (by rw [hl]; omega)
    have h1 : decide ((0 : Int) ≤ (i.length : Int)) = true := decide_eq_true (by omega)
    have h2 : decide ((i.length : Int) < (((i ++ [e]).length : Nat) : Int)) = true := decide_eq_true (by rw [hl]; omega)
    have h3 : decide (i.length < (i ++ [e]).length) = true := decide_eq_true (by rw [hl]; omega)
    unfold chart_behind_Weight
    simp only [h0, Bool.false_eq_true, if_false, hw, h1, h2, Bool.and_self, if_true, Int.toNat_natCast, h3, getD_lst, chart_Classes_1_1, Option.bind_some, List.getLast?_concat, Option.map_some, behindI]
theorem spannedWeight_ne (n : Int) (w : List ByteArray) (l : List (Int × Int × Int)) (h : (w.length : Int) ≠ n) : chart_spanned_Weight n w l = some (false, 0, 0, w, l) := by
  unfold chart_spanned_Weight
  have : (((w.length : Nat) : Int) != n) = true := by simpa using h
  simp only [this, if_true]
theorem spannedWeight_eq (n : Int) (a b : ByteArray) (r : List ByteArray) (l : List (Int × Int × Int)) (h : ((a :: b :: r).length : Int) = n) (ha : a.size ≤ 1000000) (hb : b.size ≤ 1000000) (hl : l.length ≤ 1000000) :
    chart_spanned_Weight n (a :: b :: r) l = some (spanOK a b && behindI (l.getLast?.map (fun e => e.2.1)) (ptN a), (ptN a : Int), (ptN b : Int), a :: b :: r, l) := by
  unfold chart_spanned_Weight
  have h0 : ((((a :: b :: r).length : Nat) : Int) != n) = false := by simpa using h
  have h1 : decide ((0 : Int) < (((a :: b :: r).length : Nat) : Int)) = true := decide_eq_true (by simp only [List.length_cons]; omega)
  have h2 : decide (0 < (a :: b :: r).length) = true := decide_eq_true (by simp only [List.length_cons]; omega)
  have h3 : decide ((1 : Int) < (((a :: b :: r).length : Nat) : Int)) = true := decide_eq_true (by simp only [List.length_cons]; omega)
  have h4 : decide (1 < (a :: b :: r).length) = true := decide_eq_true (by simp only [List.length_cons]; omega)
  have e0 : (a :: b :: r).getD 0 ByteArray.empty = a := rfl
  have e1 : (a :: b :: r).getD 1 ByteArray.empty = b := rfl
  simp only [h0, Bool.false_eq_true, if_false, h1, h2, h3, h4, if_true, e0, e1, span_is a b (by omega) (by omega), Option.bind_some]
  cases spanOK a b
  · simp
  · simp [behindWeight_is _ _ l hl]

theorem behindRun_is (x y : Int) (l : List (Int × Int × Int)) (h : l.length ≤ 1000000) : chart_behind_Run x y l = some (behindI (l.getLast?.map (fun e => e.2.1)) x, l) := by
  rcases last_cases l with rfl | ⟨i, e, rfl⟩
  · rfl
  · have hl : (i ++ [e]).length = i.length + 1 := by simp
    have hw : IntKind.i64.wrap ((((i ++ [e]).length : Nat) : Int) - 1) = (i.length : Int) := by rw [hl] at h ⊢; rw [wrap_i64] <;> omega
    have h0 : decide ((((i ++ [e]).length : Nat) : Int) = 0) = false := decide_eq_false (by rw [hl]; omega)
    have h1 : decide ((0 : Int) ≤ (i.length : Int)) = true := decide_eq_true (by omega)
    have h2 : decide ((i.length : Int) < (((i ++ [e]).length : Nat) : Int)) = true := decide_eq_true (by rw [hl]; omega)
    have h3 : decide (i.length < (i ++ [e]).length) = true := decide_eq_true (by rw [hl]; omega)
    unfold chart_behind_Run
    simp only [h0, Bool.false_eq_true, if_false, hw, h1, h2, Bool.and_self, if_true, Int.toNat_natCast, h3, getD_lst, chart_Runs_1_1, Option.bind_some, List.getLast?_concat, Option.map_some, behindI]
theorem spannedRun_ne (n : Int) (w : List ByteArray) (l : List (Int × Int × Int)) (h : (w.length : Int) ≠ n) : chart_spanned_Run n w l = some (false, 0, 0, w, l) := by
  unfold chart_spanned_Run
  have : (((w.length : Nat) : Int) != n) = true := by simpa using h
  simp only [this, if_true]
theorem spannedRun_eq (n : Int) (a b : ByteArray) (r : List ByteArray) (l : List (Int × Int × Int)) (h : ((a :: b :: r).length : Int) = n) (ha : a.size ≤ 1000000) (hb : b.size ≤ 1000000) (hl : l.length ≤ 1000000) :
    chart_spanned_Run n (a :: b :: r) l = some (spanOK a b && behindI (l.getLast?.map (fun e => e.2.1)) (ptN a), (ptN a : Int), (ptN b : Int), a :: b :: r, l) := by
  unfold chart_spanned_Run
  have h0 : ((((a :: b :: r).length : Nat) : Int) != n) = false := by simpa using h
  have h1 : decide ((0 : Int) < (((a :: b :: r).length : Nat) : Int)) = true := decide_eq_true (by simp only [List.length_cons]; omega)
  have h2 : decide (0 < (a :: b :: r).length) = true := decide_eq_true (by simp only [List.length_cons]; omega)
  have h3 : decide ((1 : Int) < (((a :: b :: r).length : Nat) : Int)) = true := decide_eq_true (by simp only [List.length_cons]; omega)
  have h4 : decide (1 < (a :: b :: r).length) = true := decide_eq_true (by simp only [List.length_cons]; omega)
  have e0 : (a :: b :: r).getD 0 ByteArray.empty = a := rfl
  have e1 : (a :: b :: r).getD 1 ByteArray.empty = b := rfl
  simp only [h0, Bool.false_eq_true, if_false, h1, h2, h3, h4, if_true, e0, e1, span_is a b (by omega) (by omega), Option.bind_some]
  cases spanOK a b
  · simp
  · simp [behindRun_is _ _ l hl]

theorem behindRange_is (x y : Int) (l : List (Int × Int × ByteArray × ByteArray × ByteArray × Bool)) (h : l.length ≤ 1000000) : chart_behind_Range x y l = some (behindI (l.getLast?.map (fun e => e.2.1)) x, l) := by
  rcases last_cases l with rfl | ⟨i, e, rfl⟩
  · rfl
  · have hl : (i ++ [e]).length = i.length + 1 := by simp
    have hw : IntKind.i64.wrap ((((i ++ [e]).length : Nat) : Int) - 1) = (i.length : Int) := by rw [hl] at h ⊢; rw [wrap_i64] <;> omega
    have h0 : decide ((((i ++ [e]).length : Nat) : Int) = 0) = false := decide_eq_false (by rw [hl]; omega)
    have h1 : decide ((0 : Int) ≤ (i.length : Int)) = true := decide_eq_true (by omega)
    have h2 : decide ((i.length : Int) < (((i ++ [e]).length : Nat) : Int)) = true := decide_eq_true (by rw [hl]; omega)
    have h3 : decide (i.length < (i ++ [e]).length) = true := decide_eq_true (by rw [hl]; omega)
    unfold chart_behind_Range
    simp only [h0, Bool.false_eq_true, if_false, hw, h1, h2, Bool.and_self, if_true, Int.toNat_natCast, h3, getD_lst, chart_Ranges_1_1, Option.bind_some, List.getLast?_concat, Option.map_some, behindI]
theorem spannedRange_ne (n : Int) (w : List ByteArray) (l : List (Int × Int × ByteArray × ByteArray × ByteArray × Bool)) (h : (w.length : Int) ≠ n) : chart_spanned_Range n w l = some (false, 0, 0, w, l) := by
  unfold chart_spanned_Range
  have : (((w.length : Nat) : Int) != n) = true := by simpa using h
  simp only [this, if_true]
theorem spannedRange_eq (n : Int) (a b : ByteArray) (r : List ByteArray) (l : List (Int × Int × ByteArray × ByteArray × ByteArray × Bool)) (h : ((a :: b :: r).length : Int) = n) (ha : a.size ≤ 1000000) (hb : b.size ≤ 1000000) (hl : l.length ≤ 1000000) :
    chart_spanned_Range n (a :: b :: r) l = some (spanOK a b && behindI (l.getLast?.map (fun e => e.2.1)) (ptN a), (ptN a : Int), (ptN b : Int), a :: b :: r, l) := by
  unfold chart_spanned_Range
  have h0 : ((((a :: b :: r).length : Nat) : Int) != n) = false := by simpa using h
  have h1 : decide ((0 : Int) < (((a :: b :: r).length : Nat) : Int)) = true := decide_eq_true (by simp only [List.length_cons]; omega)
  have h2 : decide (0 < (a :: b :: r).length) = true := decide_eq_true (by simp only [List.length_cons]; omega)
  have h3 : decide ((1 : Int) < (((a :: b :: r).length : Nat) : Int)) = true := decide_eq_true (by simp only [List.length_cons]; omega)
  have h4 : decide (1 < (a :: b :: r).length) = true := decide_eq_true (by simp only [List.length_cons]; omega)
  have e0 : (a :: b :: r).getD 0 ByteArray.empty = a := rfl
  have e1 : (a :: b :: r).getD 1 ByteArray.empty = b := rfl
  simp only [h0, Bool.false_eq_true, if_false, h1, h2, h3, h4, if_true, e0, e1, span_is a b (by omega) (by omega), Option.bind_some]
  cases spanOK a b
  · simp
  · simp [behindRange_is _ _ l hl]

def decN (l : List UInt8) : Nat := l.foldl (fun n b => n * 10 + (b.toNat - 48)) 0
def digits10 : ByteArray := ⟨#[48, 49, 50, 51, 52, 53, 54, 55, 56, 57]⟩
theorem low10 : Low digits10 := by unfold Low digits10; decide
theorem dig_of {s : ByteArray} (h : allIn digits10 s = true) : ∀ b ∈ s.data.toList, 48 ≤ b.toNat ∧ b.toNat ≤ 57 := by
  intro b hb
  unfold allIn at h
  rw [List.all_eq_true] at h
  have := h b hb
  unfold digits10 at this
  simp at this
  rcases this with h | h | h | h | h | h | h | h | h | h <;> subst h <;> decide
theorem decN_lt (l : List UInt8) (h : ∀ b ∈ l, 48 ≤ b.toNat ∧ b.toNat ≤ 57) : decN l < 10 ^ l.length := by
  have key : ∀ (l : List UInt8) (a k : Nat), (∀ b ∈ l, 48 ≤ b.toNat ∧ b.toNat ≤ 57) → a < 10 ^ k → l.foldl (fun n b => n * 10 + (b.toNat - 48)) a < 10 ^ (k + l.length) := by
    intro l
    induction l with
    | nil => intro a k _ ha; exact ha
    | cons b r ih =>
      intro a k h ha
      rw [List.foldl_cons, List.length_cons, Nat.add_comm r.length 1, ← Nat.add_assoc]
      refine ih _ (k + 1) (fun b hb => h b (by simp [hb])) ?_
      have := h b (by simp)
      rw [Nat.pow_succ]
      omega
  have := key l 0 0 h (by simp)
  rwa [Nat.zero_add] at this
theorem atoi_loop (s : ByteArray) (h2 : s.size ≤ 3) (h3 : ∀ b ∈ s.data.toList, 48 ≤ b.toNat ∧ b.toNat ≤ 57) :
    runLoop internal_strconv_Atoi_b10 (s, 0, ((s.data.toList.map (fun x : UInt8 => ((x.toNat : Nat) : Int))).length : Int), 0, s.data.toList.map (fun x : UInt8 => ((x.toNat : Nat) : Int))) = some (.inr (s, (decN s.data.toList : Int))) := by
  have hsz : s.data.toList.length = s.size := Array.length_toList
  generalize hL : s.data.toList = L at *
  have hlen : (L.map (fun x : UInt8 => ((x.toNat : Nat) : Int))).length = L.length := List.length_map _
  refine runLoop_to (fun i : Nat => i ≤ L.length) (fun i : Nat => (s, ((decN (L.take i) : Nat) : Int), ((L.map (fun x : UInt8 => ((x.toNat : Nat) : Int))).length : Int), (i : Int), L.map (fun x : UInt8 => ((x.toNat : Nat) : Int)))) (fun i => L.length - i) _ ?_ 0 (Nat.zero_le _)
  intro i hi
  by_cases hlt : i < L.length
  · left
    refine ⟨i + 1, ?_, hlt, by omega⟩
    obtain ⟨b, hb⟩ : ∃ b, L[i]? = some b := ⟨_, List.getElem?_eq_getElem hlt⟩
    have hbd := h3 b (List.mem_of_getElem? hb)
    have hn : decN (L.take i) ≤ 100 := by
      have := decN_lt (L.take i) (fun b hb => h3 b (List.mem_of_mem_take hb))
      have hl : (L.take i).length ≤ 2 := by rw [List.length_take]; omega
      have : 10 ^ (L.take i).length ≤ 10 ^ 2 := Nat.pow_le_pow_right (by omega) hl
      omega
    have hst : decN (L.take (i + 1)) = decN (L.take i) * 10 + (b.toNat - 48) := by
      rw [List.take_add_one, hb]
      simp [decN]
    rw [hst]
    generalize decN (L.take i) = n at *
    have w3 : IntKind.i64.wrap ((n : Int) * 10) = n * 10 := by rw [wrap_i64] <;> omega
    have w4 : IntKind.i64.wrap ((i : Int) + 1) = ((i + 1 : Nat) : Int) := by rw [wrap_i64] <;> omega
    have d0 : decide ((i : Int) < (L.length : Int)) = true := decide_eq_true (by omega)
    have d1 : decide ((0 : Int) ≤ (i : Int)) = true := decide_eq_true (by omega)
    have g := getD_map_toNat L i b hb
    have w5 : IntKind.u8.wrap ((b.toNat : Int) - 48) = ((b.toNat - 48 : Nat) : Int) := by rw [IntKind.wrap_u8]; omega
    have w6 : IntKind.i64.wrap ((b.toNat - 48 : Nat) : Int) = ((b.toNat - 48 : Nat) : Int) := by rw [wrap_i64] <;> omega
    have w7 : IntKind.i64.wrap ((n : Int) * 10 + ((b.toNat - 48 : Nat) : Int)) = ((n * 10 + (b.toNat - 48) : Nat) : Int) := by rw [wrap_i64] <;> omega
    have c1 : decide (((b.toNat - 48 : Nat) : Int) > 9) = false := decide_eq_false (by omega)
    simp only [internal_strconv_Atoi_b10, hlen, d0, d1, Int.toNat_natCast, decide_eq_true hlt, Bool.and_self, if_true, g, c1, Bool.false_eq_true, if_false, w3, w4, w5, w6, w7]
  · right
    have : i = L.length := by omega
    subst this
    have d0 : decide ((L.length : Int) < (L.length : Int)) = false := decide_eq_false (by omega)
    simp only [internal_strconv_Atoi_b10, hlen, d0, Bool.false_eq_true, if_false]
    rw [List.take_of_length_le (Nat.le_refl _)]
theorem atoi_is (s : ByteArray) (h1 : 1 ≤ s.size) (h2 : s.size ≤ 3) (h3 : ∀ b ∈ s.data.toList, 48 ≤ b.toNat ∧ b.toNat ≤ 57) : strconv_Atoi s = some (decN s.data.toList : Int) := by
  have hsz : s.data.toList.length = s.size := Array.length_toList
  have hm : s.data.toList.getD 0 0 ∈ s.data.toList := by
    cases hq : s.data.toList with
    | nil => rw [hq] at hsz; simp at hsz; omega
    | cons x r => simp [List.getD]
  have hb := h3 _ hm
  have c0 : decide ((0 : Int) < (s.size : Int)) = true := decide_eq_true (by omega)
  have c1 : decide ((s.size : Int) < 19) = true := decide_eq_true (by omega)
  have c2 : decide (((s.data.toList.getD 0 (0 : UInt8)).toNat : Int) = 45) = false := decide_eq_false (by omega)
  have c3 : decide (((s.data.toList.getD 0 (0 : UInt8)).toNat : Int) = 43) = false := decide_eq_false (by omega)
  have c4 : decide (s.size ≤ 9223372036854775807) = true := decide_eq_true (by omega)
  unfold strconv_Atoi internal_strconv_Atoi
  simp only [c0, c1, c2, c3, c4, if_true, Bool.false_eq_true, if_false, atoi_loop s h2 h3, Option.bind_some]

def numOK (c : ByteArray) : Bool := decide (1 ≤ c.size) && decide (c.size ≤ 3) && allIn digits10 c && !(c.data.toList.getD 0 0 == 48) && decide (decN c.data.toList ≤ 254)
def oneW (w : List ByteArray) (l : List (Int × Int × Int)) : Option (Int × Int × Int) := match w with
  | [a, b, c] => if spanOK a b && behindI (l.getLast?.map (fun e => e.2.1)) (ptN a) && numOK c then some ((ptN a : Int), (ptN b : Int), (decN c.data.toList : Int)) else none
  | _ => none
def oneRun (w : List ByteArray) (l : List (Int × Int × Int)) : Option (Int × Int × Int) := match w with
  | [a, b, c] => if spanOK a b && behindI (l.getLast?.map (fun e => e.2.1)) (ptN a) && ptOK c then some ((ptN a : Int), (ptN b : Int), (ptN c : Int)) else none
  | _ => none
theorem three {w : List ByteArray} (h : w.length = 3) : ∃ a b c, w = [a, b, c] := by
  match w, h with
  | [a, b, c], _ => exact ⟨a, b, c, rfl⟩
theorem oneW_ne {w : List ByteArray} (l) (h : w.length ≠ 3) : oneW w l = none := by
  unfold oneW
  split
  · simp at h
  · rfl
theorem oneRun_ne {w : List ByteArray} (l) (h : w.length ≠ 3) : oneRun w l = none := by
  unfold oneRun
  split
  · simp at h
  · rfl
theorem digits10_eq : ByteArray.extract (ByteArray.mk (List.toArray [(48 : UInt8), (49 : UInt8), (50 : UInt8), (51 : UInt8), (52 : UInt8), (53 : UInt8), (54 : UInt8), (55 : UInt8), (56 : UInt8), (57 : UInt8), (65 : UInt8), (66 : UInt8), (67 : UInt8), (68 : UInt8), (69 : UInt8), (70 : UInt8)])) 0 10 = digits10 := by
  rw [ByteArray.ext_iff]; decide
theorem le_cast1 (a b : Nat) : decide ((a : Int) ≤ (b : Int)) = decide (a ≤ b) := by rw [Bool.eq_iff_iff, decide_eq_true_eq, decide_eq_true_eq]; omega

theorem Classes1_is (w : List ByteArray) (l : List (Int × Int × Int)) (hw : ∀ x ∈ w, x.size ≤ 1000000) (hl : l.length ≤ 1000000) :
    ∃ a b n, chart_Classes_1 w l = some ((oneW w l).isSome, a, b, n, w, l) ∧ ∀ x, oneW w l = some x → x = (a, b, n) := by
  by_cases h3 : w.length = 3
  · obtain ⟨a, b, c, rfl⟩ := three h3
    have ha := hw a (by simp)
    have hb := hw b (by simp)
    have hc := hw c (by simp)
    unfold chart_Classes_1
    rw [spannedWeight_eq 3 a b [c] l (by rfl) ha hb hl, digits10_eq]
    simp only [Option.bind_some]
    cases hS : (spanOK a b && behindI (l.getLast?.map (fun e => e.2.1)) (ptN a))
    · have ho : oneW [a, b, c] l = none := by simp only [oneW, hS, Bool.false_and, Bool.false_eq_true, if_false]
      rw [ho]
      exact ⟨0, 0, 0, rfl, fun x h => by cases h⟩
    · have g2 : [a, b, c].getD 2 ByteArray.empty = c := rfl
      have e1 : decide ((2 : Int) < (([a, b, c].length : Nat) : Int)) = true := rfl
      have e2 : decide (2 < [a, b, c].length) = true := rfl
      simp only [Bool.not_true, Bool.false_eq_true, if_false, e1, e2, if_true, g2, made_is c digits10 1 3 low10 (by omega), Option.bind_some]
      have q1 : decide ((1 : Int) ≤ (c.size : Int)) = decide (1 ≤ c.size) := le_cast1 1 _
      have q2 : decide ((c.size : Int) ≤ 3) = decide (c.size ≤ 3) := le_cast1 _ 3
      rw [q1, q2]
      cases hM : (decide (1 ≤ c.size) && decide (c.size ≤ 3) && allIn digits10 c)
      · have ho : oneW [a, b, c] l = none := by simp only [oneW, hS, numOK, hM, Bool.false_and, Bool.and_false, Bool.false_eq_true, if_false]
        rw [ho]
        exact ⟨0, 0, 0, rfl, fun x h => by cases h⟩
      · have hM' := hM
        simp only [Bool.and_eq_true, decide_eq_true_eq] at hM'
        obtain ⟨⟨m1, m2⟩, m3⟩ := hM'
        have hd := dig_of m3
        have hat := atoi_is c m1 m2 hd
        have e3 : decide ((0 : Int) < (c.size : Int)) = true := decide_eq_true (by omega)
        have hz : decide (((c.data.toList.getD 0 (0 : UInt8)).toNat : Int) = 48) = (c.data.toList.getD 0 0 == 48) := by
          rw [Bool.eq_iff_iff, decide_eq_true_eq, beq_iff_eq]
          constructor
          · intro h; exact UInt8.toNat_inj.1 (by have : (48 : UInt8).toNat = 48 := rfl; omega)
          · intro h; rw [h]; rfl
        have hlt := decN_lt _ hd
        have hsz : c.data.toList.length = c.size := Array.length_toList
        have : 10 ^ c.data.toList.length ≤ 10 ^ 3 := Nat.pow_le_pow_right (by omega) (by omega)
        have hu : IntKind.u32.wrap (decN c.data.toList : Int) = decN c.data.toList := by rw [IntKind.wrap_u32]; omega
        have hle : decide ((decN c.data.toList : Int) ≤ 254) = decide (decN c.data.toList ≤ 254) := le_cast1 _ 254
        simp only [Bool.not_true, Bool.false_eq_true, if_false, e3, if_true, hz, hat, Option.bind_some, hu, hle]
        cases hZ : (c.data.toList.getD 0 0 == 48)
        · cases hN : decide (decN c.data.toList ≤ 254)
          · have ho : oneW [a, b, c] l = none := by simp only [oneW, hS, numOK, hM, hZ, hN, Bool.not_false, Bool.and_false, Bool.false_eq_true, if_false]
            rw [ho]
            exact ⟨_, _, _, rfl, fun x h => by cases h⟩
          · have ho : oneW [a, b, c] l = some ((ptN a : Int), (ptN b : Int), (decN c.data.toList : Int)) := by simp only [oneW, hS, numOK, hM, hZ, hN, Bool.not_false, Bool.and_self, if_true]
            rw [ho]
            exact ⟨_, _, _, rfl, fun x h => by cases h; rfl⟩
        · have ho : oneW [a, b, c] l = none := by simp only [oneW, hS, numOK, hM, hZ, Bool.not_true, Bool.and_false, Bool.false_and, Bool.false_eq_true, if_false]
          rw [ho]
          exact ⟨0, 0, 0, rfl, fun x h => by cases h⟩
  · unfold chart_Classes_1
    rw [spannedWeight_ne 3 w l (by omega), oneW_ne l h3]
    exact ⟨0, 0, 0, rfl, fun x h => by cases h⟩

theorem Runs1_is (w : List ByteArray) (l : List (Int × Int × Int)) (hw : ∀ x ∈ w, x.size ≤ 1000000) (hl : l.length ≤ 1000000) :
    ∃ a b n, chart_Runs_1 w l = some ((oneRun w l).isSome, a, b, n, w, l) ∧ ∀ x, oneRun w l = some x → x = (a, b, n) := by
  by_cases h3 : w.length = 3
  · obtain ⟨a, b, c, rfl⟩ := three h3
    have ha := hw a (by simp)
    have hb := hw b (by simp)
    have hc := hw c (by simp)
    unfold chart_Runs_1
    rw [spannedRun_eq 3 a b [c] l (by rfl) ha hb hl]
    simp only [Option.bind_some]
    cases hS : (spanOK a b && behindI (l.getLast?.map (fun e => e.2.1)) (ptN a))
    · have ho : oneRun [a, b, c] l = none := by simp only [oneRun, hS, Bool.false_and, Bool.false_eq_true, if_false]
      rw [ho]
      exact ⟨0, 0, 0, rfl, fun x h => by cases h⟩
    · have g2 : [a, b, c].getD 2 ByteArray.empty = c := rfl
      have e1 : decide ((2 : Int) < (([a, b, c].length : Nat) : Int)) = true := rfl
      have e2 : decide (2 < [a, b, c].length) = true := rfl
      simp only [Bool.not_true, Bool.false_eq_true, if_false, e1, e2, if_true, g2, point_is c (by omega), Option.bind_some]
      cases hM : ptOK c
      · have ho : oneRun [a, b, c] l = none := by simp only [oneRun, hS, hM, Bool.and_false, Bool.false_eq_true, if_false]
        rw [ho]
        exact ⟨_, _, _, rfl, fun x h => by cases h⟩
      · have ho : oneRun [a, b, c] l = some ((ptN a : Int), (ptN b : Int), (ptN c : Int)) := by simp only [oneRun, hS, hM, Bool.and_self, if_true]
        rw [ho]
        exact ⟨_, _, _, rfl, fun x h => by cases h; rfl⟩
  · unfold chart_Runs_1
    rw [spannedRun_ne 3 w l (by omega), oneRun_ne l h3]
    exact ⟨0, 0, 0, rfl, fun x h => by cases h⟩

theorem readWeight_is (s : ByteArray) (hs : s.size ≤ 1000000) : chart_read_Weight s = some (resR (readR oneW (linesOf s) [] 0)) := by
  unfold chart_read_Weight linesOf
  rw [beq_nil]
  by_cases h0 : s.size = 0
  · simp [h0, readR, resR]
  · rw [if_neg (by simpa using h0), if_neg h0, split_is 10 s (by omega)]
    simp only [Option.bind_some]
    have hL : (spB 10 s).length ≤ 1000001 := by have := spB_len 10 s; omega
    have hW : ∀ w ∈ spB 10 s, w.size ≤ 1000000 := fun w h => by have := spB_word 10 s w h; omega
    have hn : (spB 10 s).length ≤ s.size + 1 := spB_len 10 s
    generalize spB 10 s = L at *
    have key := read_go chart_read_Weight_b5 oneW L (fun acc => by simp [chart_read_Weight_b5]) ?_ L.length 0 [] (by omega) rfl
    · rw [show ((0 : Nat) : Int) = 0 from rfl, List.drop_zero] at key
      rw [key]
      simp only [Option.bind_some]
      cases readR oneW (L.map (spB 32)) [] 0 <;> rfl
    · intro i acc w hw ha hi
      have hm : w ∈ L := List.mem_of_getElem? hw
      have hws := hW w hm
      have d0 : decide ((i : Int) < (L.length : Int)) = true := decide_eq_true (by omega)
      have d1 : decide ((0 : Int) ≤ (i : Int)) = true := decide_eq_true (by omega)
      have d2 : decide (i < L.length) = true := decide_eq_true hi
      have hg : L.getD i ByteArray.empty = w := by rw [List.getD_eq_getElem?_getD, hw]; rfl
      have hwr : IntKind.i64.wrap ((i : Int) + 1) = ((i + 1 : Nat) : Int) := by rw [wrap_i64] <;> omega
      have hsp := split_is 32 w (by omega)
      have hww : ∀ x ∈ spB 32 w, x.size ≤ 1000000 := fun x h => by have := spB_word 32 w x h; omega
      obtain ⟨a, b, n, hc, hx⟩ := Classes1_is (spB 32 w) acc hww (by omega)
      simp only [chart_read_Weight_b5, d0, d1, d2, if_true, Bool.and_self, Int.toNat_natCast, hg, hsp, Option.bind_some, hc, hwr]
      cases ho : oneW (spB 32 w) acc with
      | none => simp
      | some x =>
        have := hx x ho
        subst this
        simp
        omega
theorem Classes_is (s : ByteArray) (hs : s.size ≤ 1000000) : chart_Classes s = some (resR (readR oneW (linesOf s) [] 0)) := by
  unfold chart_Classes
  rw [readWeight_is s hs]; rfl

theorem readRun_is (s : ByteArray) (hs : s.size ≤ 1000000) : chart_read_Run s = some (resR (readR oneRun (linesOf s) [] 0)) := by
  unfold chart_read_Run linesOf
  rw [beq_nil]
  by_cases h0 : s.size = 0
  · simp [h0, readR, resR]
  · rw [if_neg (by simpa using h0), if_neg h0, split_is 10 s (by omega)]
    simp only [Option.bind_some]
    have hL : (spB 10 s).length ≤ 1000001 := by have := spB_len 10 s; omega
    have hW : ∀ w ∈ spB 10 s, w.size ≤ 1000000 := fun w h => by have := spB_word 10 s w h; omega
    have hn : (spB 10 s).length ≤ s.size + 1 := spB_len 10 s
    generalize spB 10 s = L at *
    have key := read_go chart_read_Run_b5 oneRun L (fun acc => by simp [chart_read_Run_b5]) ?_ L.length 0 [] (by omega) rfl
    · rw [show ((0 : Nat) : Int) = 0 from rfl, List.drop_zero] at key
      rw [key]
      simp only [Option.bind_some]
      cases readR oneRun (L.map (spB 32)) [] 0 <;> rfl
    · intro i acc w hw ha hi
      have hm : w ∈ L := List.mem_of_getElem? hw
      have hws := hW w hm
      have d0 : decide ((i : Int) < (L.length : Int)) = true := decide_eq_true (by omega)
      have d1 : decide ((0 : Int) ≤ (i : Int)) = true := decide_eq_true (by omega)
      have d2 : decide (i < L.length) = true := decide_eq_true hi
      have hg : L.getD i ByteArray.empty = w := by rw [List.getD_eq_getElem?_getD, hw]; rfl
      have hwr : IntKind.i64.wrap ((i : Int) + 1) = ((i + 1 : Nat) : Int) := by rw [wrap_i64] <;> omega
      have hsp := split_is 32 w (by omega)
      have hww : ∀ x ∈ spB 32 w, x.size ≤ 1000000 := fun x h => by have := spB_word 32 w x h; omega
      obtain ⟨a, b, n, hc, hx⟩ := Runs1_is (spB 32 w) acc hww (by omega)
      simp only [chart_read_Run_b5, d0, d1, d2, if_true, Bool.and_self, Int.toNat_natCast, hg, hsp, Option.bind_some, hc, hwr]
      cases ho : oneRun (spB 32 w) acc with
      | none => simp
      | some x =>
        have := hx x ho
        subst this
        simp
        omega
theorem Runs_is (s : ByteArray) (hs : s.size ≤ 1000000) : chart_Runs s = some (resR (readR oneRun (linesOf s) [] 0)) := by
  unfold chart_Runs
  rw [readRun_is s hs]; rfl
end Go.Pc

/- Charts of ranges, sets and of what points become, read: pure. -/
set_option linter.unusedVariables false
set_option linter.unusedSimpArgs false
set_option maxRecDepth 100000
namespace Go.Pc
open Go Go.Sx Go.Tx

def capsB : ByteArray := ⟨#[65, 66, 67, 68, 69, 70, 71, 72, 73, 74, 75, 76, 77, 78, 79, 80, 81, 82, 83, 84, 85, 86, 87, 88, 89, 90]⟩
def smallsB : ByteArray := ⟨#[97, 98, 99, 100, 101, 102, 103, 104, 105, 106, 107, 108, 109, 110, 111, 112, 113, 114, 115, 116, 117, 118, 119, 120, 121, 122]⟩
def joinsB : ByteArray := ⟨#[85, 68, 82, 76, 67, 84]⟩
def signsB : ByteArray := ⟨#[61, 33, 126]⟩
theorem lowCaps : Low capsB := by unfold Low capsB; decide
theorem lowSmalls : Low smallsB := by unfold Low smallsB; decide
theorem lowJoins : Low joinsB := by unfold Low joinsB; decide
theorem lowSigns : Low signsB := by unfold Low signsB; decide
theorem capsB_eq : (ByteArray.mk (List.toArray [(65 : UInt8), (66 : UInt8), (67 : UInt8), (68 : UInt8), (69 : UInt8), (70 : UInt8), (71 : UInt8), (72 : UInt8), (73 : UInt8), (74 : UInt8), (75 : UInt8), (76 : UInt8), (77 : UInt8), (78 : UInt8), (79 : UInt8), (80 : UInt8), (81 : UInt8), (82 : UInt8), (83 : UInt8), (84 : UInt8), (85 : UInt8), (86 : UInt8), (87 : UInt8), (88 : UInt8), (89 : UInt8), (90 : UInt8)])) = capsB := rfl
theorem smallsB_eq : (ByteArray.mk (List.toArray [(97 : UInt8), (98 : UInt8), (99 : UInt8), (100 : UInt8), (101 : UInt8), (102 : UInt8), (103 : UInt8), (104 : UInt8), (105 : UInt8), (106 : UInt8), (107 : UInt8), (108 : UInt8), (109 : UInt8), (110 : UInt8), (111 : UInt8), (112 : UInt8), (113 : UInt8), (114 : UInt8), (115 : UInt8), (116 : UInt8), (117 : UInt8), (118 : UInt8), (119 : UInt8), (120 : UInt8), (121 : UInt8), (122 : UInt8)])) = smallsB := rfl
theorem joinsB_eq : (ByteArray.mk (List.toArray [(85 : UInt8), (68 : UInt8), (82 : UInt8), (76 : UInt8), (67 : UInt8), (84 : UInt8)])) = joinsB := rfl
theorem signsB_eq : (ByteArray.mk (List.toArray [(61 : UInt8), (33 : UInt8), (126 : UInt8)])) = signsB := rfl
/-- Is a text this one? -/
def isB (s : ByteArray) (t : List UInt8) : Bool := List.beq (ByteArray.toList s) (ByteArray.toList (ByteArray.mk (List.toArray t)))
theorem isB_eq (s : ByteArray) (t : List UInt8) : List.beq (ByteArray.toList s) (ByteArray.toList (ByteArray.mk (List.toArray t))) = isB s t := rfl

theorem inn {n k : Nat} (h : n = k) (i : Nat) (hi : i < k) : decide ((i : Int) < (n : Int)) = true ∧ decide (i < n) = true := ⟨decide_eq_true (by omega), decide_eq_true (by omega)⟩

def oneNamed (w : List ByteArray) (_ : List (ByteArray × Int × Int)) : Option (ByteArray × Int × Int) := match w with
  | [a, b, c] => if (decide (1 ≤ a.size) && decide (a.size ≤ 10) && allIn capsB a) && spanOK b c then some (a, (ptN b : Int), (ptN c : Int)) else none
  | _ => none
theorem oneNamed_ne {w : List ByteArray} (l) (h : w.length ≠ 3) : oneNamed w l = none := by
  unfold oneNamed
  split
  · simp at h
  · rfl
theorem Sets1_is (w : List ByteArray) (l : List (ByteArray × Int × Int)) (hw : ∀ x ∈ w, x.size ≤ 1000000) (hl : l.length ≤ 1000000) :
    ∃ a b n, chart_Sets_1 w l = some ((oneNamed w l).isSome, a, b, n, w, l) ∧ ∀ x, oneNamed w l = some x → x = (a, b, n) := by
  by_cases h3 : w.length = 3
  · obtain ⟨a, b, c, rfl⟩ := three h3
    have ha := hw a (by simp)
    have hb := hw b (by simp)
    have hc := hw c (by simp)
    unfold chart_Sets_1
    rw [capsB_eq]
    have g0 : [a, b, c].getD 0 ByteArray.empty = a := rfl
    have g1 : [a, b, c].getD 1 ByteArray.empty = b := rfl
    have g2 : [a, b, c].getD 2 ByteArray.empty = c := rfl
    have e0 : ((([a, b, c].length : Nat) : Int) != 3) = false := rfl
    have e1 : decide ((0 : Int) < (([a, b, c].length : Nat) : Int)) = true := rfl
    have e2 : decide (0 < [a, b, c].length) = true := rfl
    have e3 : decide ((1 : Int) < (([a, b, c].length : Nat) : Int)) = true := rfl
    have e4 : decide (1 < [a, b, c].length) = true := rfl
    have e5 : decide ((2 : Int) < (([a, b, c].length : Nat) : Int)) = true := rfl
    have e6 : decide (2 < [a, b, c].length) = true := rfl
    simp only [Bool.not_true, Bool.false_eq_true, if_false, e0, e1, e2, e3, e4, e5, e6, if_true, g0, g1, g2, made_is a capsB 1 10 lowCaps (by omega), span_is b c (by omega) (by omega), Option.bind_some]
    have q1 : decide ((1 : Int) ≤ (a.size : Int)) = decide (1 ≤ a.size) := le_cast1 1 _
    have q2 : decide ((a.size : Int) ≤ 10) = decide (a.size ≤ 10) := le_cast1 _ 10
    rw [q1, q2]
    cases hM : (decide (1 ≤ a.size) && decide (a.size ≤ 10) && allIn capsB a)
    · have ho : oneNamed [a, b, c] l = none := by simp only [oneNamed, hM, Bool.false_and, Bool.false_eq_true, if_false]
      rw [ho]
      exact ⟨_, _, _, rfl, fun x h => by cases h⟩
    · cases hS : spanOK b c
      · have ho : oneNamed [a, b, c] l = none := by simp only [oneNamed, hM, hS, Bool.and_false, Bool.false_eq_true, if_false]
        rw [ho]
        exact ⟨_, _, _, rfl, fun x h => by cases h⟩
      · have ho : oneNamed [a, b, c] l = some (a, (ptN b : Int), (ptN c : Int)) := by simp only [oneNamed, hM, hS, Bool.and_self, if_true]
        rw [ho]
        exact ⟨_, _, _, rfl, fun x h => by cases h; rfl⟩
  · have e0 : (((w.length : Nat) : Int) != 3) = true := by simp; omega
    unfold chart_Sets_1
    rw [oneNamed_ne l h3]
    simp only [e0, if_true]
    exact ⟨_, _, _, rfl, fun x h => by cases h⟩

/-! what points become -/
def ptsOK : List ByteArray → Bool := fun l => l.all ptOK
theorem points_go (L : List ByteArray) (hL : L.length ≤ 1000000) (hw : ∀ x ∈ L, x.size ≤ 1000000) : ∀ (n i : Nat) (acc : List Int), n + i = L.length → acc.length = i →
    runLoop chart_points_b3 ((L.length : Int), (i : Int), L, acc) = some (if ptsOK (L.drop i) then .inr (L, acc ++ (L.drop i).map (fun x => (ptN x : Int))) else .inl (false, L)) := by
  intro n
  induction n with
  | zero =>
    intro i acc h1 h2
    have : i = L.length := by omega
    subst this
    have d0 : decide ((L.length : Int) < (L.length : Int)) = false := decide_eq_false (by omega)
    rw [runLoop_done (x := .inr (L, acc)) (by simp only [chart_points_b3, d0, Bool.false_eq_true, if_false]), List.drop_length]
    simp [ptsOK]
  | succ n ih =>
    intro i acc h1 h2
    have hi : i < L.length := by omega
    have d0 : decide ((i : Int) < (L.length : Int)) = true := decide_eq_true (by omega)
    have d1 : decide ((0 : Int) ≤ (i : Int)) = true := decide_eq_true (by omega)
    have d2 : decide (i < L.length) = true := decide_eq_true hi
    have hg : L.getD i ByteArray.empty = L[i] := by rw [List.getD_eq_getElem?_getD, List.getElem?_eq_getElem hi]; rfl
    have hwr : IntKind.i64.wrap ((i : Int) + 1) = ((i + 1 : Nat) : Int) := by rw [wrap_i64] <;> omega
    have hm : L[i] ∈ L := List.getElem_mem hi
    have hp := point_is L[i] (by have := hw _ hm; omega)
    rw [List.drop_eq_getElem_cons hi]
    cases ho : ptOK L[i]
    · rw [runLoop_done (x := .inl (false, L)) (by simp only [chart_points_b3, d0, d1, d2, if_true, Bool.and_self, Int.toNat_natCast, hg, hp, Option.bind_some, ho, Bool.not_false])]
      have e : ptsOK (L[i] :: L.drop (i + 1)) = false := by
        show (ptOK L[i] && _) = false
        rw [ho]; rfl
      rw [e]; rfl
    · have hlen : decide ((acc.length + [(ptN L[i] : Int)].length) * 4 ≤ 140737488355328) = true := decide_eq_true (by simp; omega)
      rw [runLoop_step (v' := ((L.length : Int), ((i + 1 : Nat) : Int), L, acc ++ [(ptN L[i] : Int)])) (by simp only [chart_points_b3, d0, d1, d2, if_true, Bool.and_self, Int.toNat_natCast, hg, hp, Option.bind_some, ho, Bool.not_true, Bool.false_eq_true, if_false, hlen, hwr])]
      rw [ih (i + 1) (acc ++ [(ptN L[i] : Int)]) (by omega) (by simp [h2])]
      have e : ptsOK (L[i] :: L.drop (i + 1)) = ptsOK (L.drop (i + 1)) := by
        show (ptOK L[i] && ptsOK _) = _
        rw [ho, Bool.true_and]
      rw [e, List.map_cons, List.append_assoc]; rfl
theorem points_is (L : List ByteArray) (hL : L.length ≤ 1000000) (hw : ∀ x ∈ L, x.size ≤ 1000000) :
    ∃ r, chart_points L = some (ptsOK L && decide (0 < L.length) && decide (L.length ≤ 3), L, r) ∧ (ptsOK L = true → r = L.map (fun x => (ptN x : Int))) := by
  have h := points_go L hL hw L.length 0 [] (by omega) rfl
  rw [show ((0 : Nat) : Int) = 0 from rfl, List.drop_zero, List.nil_append] at h
  unfold chart_points
  rw [h]
  simp only [Option.bind_some]
  cases hp : ptsOK L
  · exact ⟨[], rfl, fun h => by cases h⟩
  · refine ⟨L.map (fun x => (ptN x : Int)), ?_, fun _ => rfl⟩
    simp only [if_true]
    by_cases h0 : 0 < L.length
    · have d0 : decide ((L.length : Int) > 0) = true := decide_eq_true (by omega)
      have q2 : decide ((L.length : Int) ≤ 3) = decide (L.length ≤ 3) := le_cast1 _ 3
      simp [d0, q2, h0]
    · have d0 : decide ((L.length : Int) > 0) = false := decide_eq_false (by omega)
      simp [d0, h0]

def aheadI (e : Option Int) (f : Int) : Bool := match e with
  | none => true
  | some x => !decide (x ≥ f)
def oneDecomp (w : List ByteArray) (l : List (Int × List Int × Bool × Bool)) : Option (Int × List Int × Bool × Bool) := match w with
  | a :: b :: c :: r => if (decide (1 ≤ b.size) && decide (b.size ≤ 1) && allIn signsB b) && ptOK a && (ptsOK (c :: r) && decide ((c :: r).length ≤ 3)) && aheadI (l.getLast?.map (fun e => e.1)) (ptN a) then
      some ((ptN a : Int), (c :: r).map (fun x => (ptN x : Int)), isB b [126], isB b [33]) else none
  | _ => none
theorem oneDecomp_ne {w : List ByteArray} (l) (h : w.length < 3) : oneDecomp w l = none := by
  unfold oneDecomp
  split
  · simp at h; omega
  · rfl
theorem more3 {w : List ByteArray} (h : ¬ w.length < 3) : ∃ a b c r, w = a :: b :: c :: r := by
  match w, h with
  | [], h => simp at h
  | [_], h => simp at h
  | [_, _], h => simp at h
  | a :: b :: c :: r, _ => exact ⟨a, b, c, r, rfl⟩
theorem Decomps1_is (w : List ByteArray) (l : List (Int × List Int × Bool × Bool)) (hw : ∀ x ∈ w, x.size ≤ 1000000) (hwl : w.length ≤ 1000001) (hl : l.length ≤ 1000000) :
    ∃ n x y r, chart_Decomps_1 w l = some ((oneDecomp w l).isSome, n, x, y, w, l, r) ∧ ∀ z, oneDecomp w l = some z → z = (n, r, x, y) := by
  by_cases h3 : w.length < 3
  · have e0 : decide (((w.length : Nat) : Int) < 3) = true := decide_eq_true (by omega)
    unfold chart_Decomps_1
    rw [oneDecomp_ne l h3]
    simp only [e0, if_true]
    exact ⟨_, _, _, _, rfl, fun x h => by cases h⟩
  · obtain ⟨a, b, c, r, rfl⟩ := more3 h3
    have ha := hw a (by simp)
    have hb := hw b (by simp)
    obtain ⟨q, hq, hq'⟩ := points_is (c :: r) (by simp at hwl ⊢; omega) (fun x hx => hw x (by simp at hx ⊢; exact .inr (.inr hx)))
    unfold chart_Decomps_1
    rw [signsB_eq]
    generalize hN : (a :: b :: c :: r).length = N at *
    have hN3 : 3 ≤ N := by omega
    have g0 : (a :: b :: c :: r).getD 0 ByteArray.empty = a := rfl
    have g1 : (a :: b :: c :: r).getD 1 ByteArray.empty = b := rfl
    have gd : List.drop 2 (List.take ((N : Nat) : Int).toNat (a :: b :: c :: r)) = c :: r := by rw [Int.toNat_natCast, ← hN, List.take_length]; rfl
    have e0 : decide (((N : Nat) : Int) < 3) = false := decide_eq_false (by omega)
    have e1 : decide ((0 : Int) < ((N : Nat) : Int)) = true := decide_eq_true (by omega)
    have e2 : decide (0 < N) = true := decide_eq_true (by omega)
    have e3 : decide ((1 : Int) < ((N : Nat) : Int)) = true := decide_eq_true (by omega)
    have e4 : decide (1 < N) = true := decide_eq_true (by omega)
    have e5 : decide ((2 : Int) ≤ ((N : Nat) : Int)) = true := decide_eq_true (by omega)
    have e6 : decide (((N : Nat) : Int) ≤ ((N : Nat) : Int)) = true := decide_eq_true (by omega)
    simp only [Bool.false_eq_true, if_false, e0, e1, e2, e3, e4, e5, e6, if_true, Bool.and_self, g0, g1, gd, hq, isB_eq, made_is b signsB 1 1 lowSigns (by omega), point_is a (by omega), Option.bind_some]
    have q1 : decide ((1 : Int) ≤ (b.size : Int)) = decide (1 ≤ b.size) := le_cast1 1 _
    have q2 : decide ((b.size : Int) ≤ 1) = decide (b.size ≤ 1) := le_cast1 _ 1
    have q3 : decide (0 < (c :: r).length) = true := decide_eq_true (by simp)
    rw [q1, q2, q3, Bool.and_true]
    cases hM : (decide (1 ≤ b.size) && decide (b.size ≤ 1) && allIn signsB b)
    · have ho : oneDecomp (a :: b :: c :: r) l = none := by simp only [oneDecomp, hM, Bool.false_and, Bool.false_eq_true, if_false]
      rw [ho]
      exact ⟨_, _, _, _, rfl, fun x h => by cases h⟩
    · cases hA : ptOK a
      · have ho : oneDecomp (a :: b :: c :: r) l = none := by simp only [oneDecomp, hA, Bool.false_and, Bool.and_false, Bool.false_eq_true, if_false]
        rw [ho]
        exact ⟨_, _, _, _, rfl, fun x h => by cases h⟩
      · cases hP : (ptsOK (c :: r) && decide ((c :: r).length ≤ 3))
        · have ho : oneDecomp (a :: b :: c :: r) l = none := by simp only [oneDecomp, hP, Bool.false_and, Bool.and_false, Bool.false_eq_true, if_false]
          rw [ho]
          exact ⟨_, _, _, _, rfl, fun x h => by cases h⟩
        · have hq2 := hq' (by simp only [Bool.and_eq_true] at hP; exact hP.1)
          rcases last_cases l with rfl | ⟨i, e, rfl⟩
          · have ho : oneDecomp (a :: b :: c :: r) [] = some ((ptN a : Int), (c :: r).map (fun x => (ptN x : Int)), isB b [126], isB b [33]) := by simp only [oneDecomp, hM, hA, hP, Bool.and_self, List.getLast?_nil, Option.map_none, aheadI, if_true]
            rw [ho]
            exact ⟨_, _, _, _, rfl, fun x h => by cases h; rw [hq2]⟩
          · have hl' : (i ++ [e]).length = i.length + 1 := by simp
            have hwp : IntKind.i64.wrap ((((i ++ [e]).length : Nat) : Int) - 1) = (i.length : Int) := by rw [hl'] at hl ⊢; rw [wrap_i64] <;> omega
            have h0 : decide ((((i ++ [e]).length : Nat) : Int) > 0) = true := decide_eq_true (by rw [hl']; omega)
            have h1 : decide ((0 : Int) ≤ (i.length : Int)) = true := decide_eq_true (by omega)
            have h2 : decide ((i.length : Int) < (((i ++ [e]).length : Nat) : Int)) = true := decide_eq_true (by rw [hl']; omega)
            have h3 : decide (i.length < (i ++ [e]).length) = true := decide_eq_true (by rw [hl']; omega)
            simp only [Bool.not_true, Bool.false_eq_true, if_false, h0, if_true, hwp, h1, h2, Bool.and_self, Int.toNat_natCast, h3, getD_lst]
            cases hE : decide (e.1 ≥ (ptN a : Int))
            · have ho : oneDecomp (a :: b :: c :: r) (i ++ [e]) = some ((ptN a : Int), (c :: r).map (fun x => (ptN x : Int)), isB b [126], isB b [33]) := by simp only [oneDecomp, hM, hA, hP, Bool.and_self, List.getLast?_concat, Option.map_some, aheadI, hE, Bool.not_false, if_true]
              rw [ho]
              exact ⟨_, _, _, _, rfl, fun x h => by cases h; rw [hq2]⟩
            · have ho : oneDecomp (a :: b :: c :: r) (i ++ [e]) = none := by simp only [oneDecomp, List.getLast?_concat, Option.map_some, aheadI, hE, Bool.not_true, Bool.and_false, Bool.false_eq_true, if_false]
              rw [ho]
              exact ⟨_, _, _, _, rfl, fun x h => by cases h⟩

/-! ranges -/
def catOK (c : ByteArray) : Bool := decide (c.size = 2) && allIn capsB (c.extract 0 1) && allIn smallsB (c.extract 1 c.size)
def newOK (f : ByteArray) : Bool := isB f [111, 108, 100] || isB f [110, 101, 119]
def oneRange (w : List ByteArray) (l : List (Int × Int × ByteArray × ByteArray × ByteArray × Bool)) : Option (Int × Int × ByteArray × ByteArray × ByteArray × Bool) := match w with
  | [a, b, c, d, e, f] => if (spanOK a b && behindI (l.getLast?.map (fun e => e.2.1)) (ptN a)) && catOK c && (decide (1 ≤ d.size) && decide (d.size ≤ 3) && allIn capsB d) && (decide (1 ≤ e.size) && decide (e.size ≤ 1) && allIn joinsB e) && newOK f then
      some ((ptN a : Int), (ptN b : Int), c, d, e, isB f [110, 101, 119]) else none
  | _ => none
theorem six {w : List ByteArray} (h : w.length = 6) : ∃ a b c d e f, w = [a, b, c, d, e, f] := by
  match w, h with
  | [a, b, c, d, e, f], _ => exact ⟨a, b, c, d, e, f, rfl⟩
theorem oneRange_ne {w : List ByteArray} (l) (h : w.length ≠ 6) : oneRange w l = none := by
  unfold oneRange
  split
  · simp at h
  · rfl
set_option maxHeartbeats 2000000 in
theorem Ranges1_is (w : List ByteArray) (l : List (Int × Int × ByteArray × ByteArray × ByteArray × Bool)) (hw : ∀ x ∈ w, x.size ≤ 1000000) (hl : l.length ≤ 1000000) :
    ∃ p q x y z n, chart_Ranges_1 w l = some ((oneRange w l).isSome, p, q, x, y, z, n, w, l) ∧ ∀ v, oneRange w l = some v → v = (p, q, x, y, z, n) := by
  by_cases h6 : w.length = 6
  · obtain ⟨a, b, c, d, e, f, rfl⟩ := six h6
    have ha := hw a (by simp)
    have hb := hw b (by simp)
    have hc := hw c (by simp)
    have hd := hw d (by simp)
    have he := hw e (by simp)
    unfold chart_Ranges_1
    rw [spannedRange_eq 6 a b [c, d, e, f] l (by rfl) ha hb hl, capsB_eq, smallsB_eq, joinsB_eq]
    simp only [Option.bind_some]
    generalize hW : [a, b, c, d, e, f] = W at *
    have g2 : W.getD 2 ByteArray.empty = c := by rw [← hW]; rfl
    have g3 : W.getD 3 ByteArray.empty = d := by rw [← hW]; rfl
    have g4 : W.getD 4 ByteArray.empty = e := by rw [← hW]; rfl
    have g5 : W.getD 5 ByteArray.empty = f := by rw [← hW]; rfl
    have e1 : decide ((2 : Int) < ((W.length : Nat) : Int)) = true := decide_eq_true (by omega)
    have e2 : decide (2 < W.length) = true := decide_eq_true (by omega)
    have e3 : decide ((3 : Int) < ((W.length : Nat) : Int)) = true := decide_eq_true (by omega)
    have e4 : decide (3 < W.length) = true := decide_eq_true (by omega)
    have e5 : decide ((4 : Int) < ((W.length : Nat) : Int)) = true := decide_eq_true (by omega)
    have e6 : decide (4 < W.length) = true := decide_eq_true (by omega)
    have e7 : decide ((5 : Int) < ((W.length : Nat) : Int)) = true := decide_eq_true (by omega)
    have e8 : decide (5 < W.length) = true := decide_eq_true (by omega)
    have hOne : oneRange W l = if (spanOK a b && behindI (l.getLast?.map (fun e => e.2.1)) (ptN a)) && catOK c && (decide (1 ≤ d.size) && decide (d.size ≤ 3) && allIn capsB d) && (decide (1 ≤ e.size) && decide (e.size ≤ 1) && allIn joinsB e) && newOK f then some ((ptN a : Int), (ptN b : Int), c, d, e, isB f [110, 101, 119]) else none := by rw [← hW]; rfl
    simp only [e1, e2, e3, e4, e5, e6, e7, e8, if_true, g2, g3, g4, g5, isB_eq]
    cases hS : (spanOK a b && behindI (l.getLast?.map (fun e => e.2.1)) (ptN a))
    · have ho : oneRange W l = none := by rw [hOne]; simp only [hS, Bool.false_and, Bool.false_eq_true, if_false]
      rw [ho]
      exact ⟨_, _, _, _, _, _, rfl, fun x h => by cases h⟩
    · by_cases hc2 : c.size = 2
      · have c0 : ((((c.size : Nat) : Int)) != 2) = false := by rw [hc2]; rfl
        have c1 : decide ((1 : Int) ≤ ((c.size : Nat) : Int)) = true := decide_eq_true (by omega)
        have s1 : (c.extract 0 1).size = 1 := by rw [ByteArray.size_extract]; omega
        have s2 : (c.extract 1 c.size).size = 1 := by rw [ByteArray.size_extract]; omega
        have o1 : (decide ((1 : Int) ≤ ((1 : Nat) : Int)) && decide (((1 : Nat) : Int) ≤ (1 : Int))) = true := rfl
        simp only [Bool.not_true, Bool.false_eq_true, if_false, c0, c1, if_true, made_is (c.extract 0 1) capsB 1 1 lowCaps (by omega), made_is (c.extract 1 c.size) smallsB 1 1 lowSmalls (by omega), s1, s2, o1, Bool.true_and, Option.bind_some]
        cases hx1 : allIn capsB (c.extract 0 1)
        · have ho : oneRange W l = none := by rw [hOne]; simp only [catOK, hx1, Bool.false_and, Bool.and_false, Bool.false_eq_true, if_false]
          rw [ho]
          exact ⟨_, _, _, _, _, _, rfl, fun x h => by cases h⟩
        · cases hx2 : allIn smallsB (c.extract 1 c.size)
          · have ho : oneRange W l = none := by rw [hOne]; simp only [catOK, hx2, Bool.false_and, Bool.and_false, Bool.false_eq_true, if_false]
            rw [ho]
            exact ⟨_, _, _, _, _, _, rfl, fun x h => by cases h⟩
          · have hcat : catOK c = true := by simp only [catOK, hx1, hx2, decide_eq_true hc2, Bool.and_self]
            simp only [Bool.not_true, Bool.false_eq_true, if_false, made_is d capsB 1 3 lowCaps (by omega), made_is e joinsB 1 1 lowJoins (by omega), Option.bind_some]
            rw [show decide ((1 : Int) ≤ (d.size : Int)) = decide (1 ≤ d.size) from le_cast1 1 _, show decide ((d.size : Int) ≤ 3) = decide (d.size ≤ 3) from le_cast1 _ 3, show decide ((1 : Int) ≤ (e.size : Int)) = decide (1 ≤ e.size) from le_cast1 1 _, show decide ((e.size : Int) ≤ 1) = decide (e.size ≤ 1) from le_cast1 _ 1]
            cases hD : (decide (1 ≤ d.size) && decide (d.size ≤ 3) && allIn capsB d)
            · have ho : oneRange W l = none := by rw [hOne]; simp only [hD, Bool.false_and, Bool.and_false, Bool.false_eq_true, if_false]
              rw [ho]
              exact ⟨_, _, _, _, _, _, rfl, fun x h => by cases h⟩
            · cases hE : (decide (1 ≤ e.size) && decide (e.size ≤ 1) && allIn joinsB e)
              · have ho : oneRange W l = none := by rw [hOne]; simp only [hE, Bool.false_and, Bool.and_false, Bool.false_eq_true, if_false]
                rw [ho]
                exact ⟨_, _, _, _, _, _, rfl, fun x h => by cases h⟩
              · cases hF1 : isB f [111, 108, 100]
                · cases hF2 : isB f [110, 101, 119]
                  · have ho : oneRange W l = none := by rw [hOne]; simp only [newOK, hF1, hF2, Bool.or_self, Bool.and_false, Bool.false_eq_true, if_false]
                    rw [ho]
                    exact ⟨_, _, _, _, _, _, rfl, fun x h => by cases h⟩
                  · have ho : oneRange W l = some ((ptN a : Int), (ptN b : Int), c, d, e, isB f [110, 101, 119]) := by rw [hOne]; simp only [hS, hcat, hD, hE, newOK, hF1, hF2, Bool.or_true, Bool.and_self, if_true]
                    rw [ho, hF2]
                    exact ⟨_, _, _, _, _, _, rfl, fun x h => by cases h; rfl⟩
                · have ho : oneRange W l = some ((ptN a : Int), (ptN b : Int), c, d, e, isB f [110, 101, 119]) := by rw [hOne]; simp only [hS, hcat, hD, hE, newOK, hF1, Bool.true_or, Bool.and_self, if_true]
                  rw [ho]
                  exact ⟨_, _, _, _, _, _, rfl, fun x h => by cases h; rfl⟩
      · have c0 : ((((c.size : Nat) : Int)) != 2) = true := by simp; omega
        have ho : oneRange W l = none := by rw [hOne]; simp only [catOK, decide_eq_false hc2, Bool.false_and, Bool.and_false, Bool.false_eq_true, if_false]
        rw [ho]
        simp only [Bool.not_true, Bool.false_eq_true, if_false, c0, if_true]
        exact ⟨_, _, _, _, _, _, rfl, fun x h => by cases h⟩
  · unfold chart_Ranges_1
    rw [spannedRange_ne 6 w l (by omega), oneRange_ne l h6]
    exact ⟨_, _, _, _, _, _, rfl, fun x h => by cases h⟩

theorem readNamed_is (s : ByteArray) (hs : s.size ≤ 1000000) : chart_read_Named s = some (resR (readR oneNamed (linesOf s) [] 0)) := by
  unfold chart_read_Named linesOf
  rw [beq_nil]
  by_cases h0 : s.size = 0
  · simp [h0, readR, resR]
  · rw [if_neg (by simpa using h0), if_neg h0, split_is 10 s (by omega)]
    simp only [Option.bind_some]
    have hL : (spB 10 s).length ≤ 1000001 := by have := spB_len 10 s; omega
    have hW : ∀ w ∈ spB 10 s, w.size ≤ 1000000 := fun w h => by have := spB_word 10 s w h; omega
    have hn : (spB 10 s).length ≤ s.size + 1 := spB_len 10 s
    generalize spB 10 s = L at *
    have key := read_go chart_read_Named_b5 oneNamed L (fun acc => by simp [chart_read_Named_b5]) ?_ L.length 0 [] (by omega) rfl
    · rw [show ((0 : Nat) : Int) = 0 from rfl, List.drop_zero] at key
      rw [key]
      simp only [Option.bind_some]
      cases readR oneNamed (L.map (spB 32)) [] 0 <;> rfl
    · intro i acc w hw ha hi
      have hm : w ∈ L := List.mem_of_getElem? hw
      have hws := hW w hm
      have d0 : decide ((i : Int) < (L.length : Int)) = true := decide_eq_true (by omega)
      have d1 : decide ((0 : Int) ≤ (i : Int)) = true := decide_eq_true (by omega)
      have d2 : decide (i < L.length) = true := decide_eq_true hi
      have hg : L.getD i ByteArray.empty = w := by rw [List.getD_eq_getElem?_getD, hw]; rfl
      have hwr : IntKind.i64.wrap ((i : Int) + 1) = ((i + 1 : Nat) : Int) := by rw [wrap_i64] <;> omega
      have hsp := split_is 32 w (by omega)
      have hww : ∀ x ∈ spB 32 w, x.size ≤ 1000000 := fun x h => by have := spB_word 32 w x h; omega
      obtain ⟨a, b, n, hc, hx⟩ := Sets1_is (spB 32 w) acc hww (by omega)
      simp only [chart_read_Named_b5, d0, d1, d2, if_true, Bool.and_self, Int.toNat_natCast, hg, hsp, Option.bind_some, hc, hwr]
      cases ho : oneNamed (spB 32 w) acc with
      | none => simp
      | some x =>
        have := hx x ho
        subst this
        simp
        omega
theorem Sets_is (s : ByteArray) (hs : s.size ≤ 1000000) : chart_Sets s = some (resR (readR oneNamed (linesOf s) [] 0)) := by
  unfold chart_Sets
  rw [readNamed_is s hs]; rfl

theorem readRange_is (s : ByteArray) (hs : s.size ≤ 1000000) : chart_read_Range s = some (resR (readR oneRange (linesOf s) [] 0)) := by
  unfold chart_read_Range linesOf
  rw [beq_nil]
  by_cases h0 : s.size = 0
  · simp [h0, readR, resR]
  · rw [if_neg (by simpa using h0), if_neg h0, split_is 10 s (by omega)]
    simp only [Option.bind_some]
    have hL : (spB 10 s).length ≤ 1000001 := by have := spB_len 10 s; omega
    have hW : ∀ w ∈ spB 10 s, w.size ≤ 1000000 := fun w h => by have := spB_word 10 s w h; omega
    have hn : (spB 10 s).length ≤ s.size + 1 := spB_len 10 s
    generalize spB 10 s = L at *
    have key := read_go chart_read_Range_b5 oneRange L (fun acc => by simp [chart_read_Range_b5]) ?_ L.length 0 [] (by omega) rfl
    · rw [show ((0 : Nat) : Int) = 0 from rfl, List.drop_zero] at key
      rw [key]
      simp only [Option.bind_some]
      cases readR oneRange (L.map (spB 32)) [] 0 <;> rfl
    · intro i acc w hw ha hi
      have hm : w ∈ L := List.mem_of_getElem? hw
      have hws := hW w hm
      have d0 : decide ((i : Int) < (L.length : Int)) = true := decide_eq_true (by omega)
      have d1 : decide ((0 : Int) ≤ (i : Int)) = true := decide_eq_true (by omega)
      have d2 : decide (i < L.length) = true := decide_eq_true hi
      have hg : L.getD i ByteArray.empty = w := by rw [List.getD_eq_getElem?_getD, hw]; rfl
      have hwr : IntKind.i64.wrap ((i : Int) + 1) = ((i + 1 : Nat) : Int) := by rw [wrap_i64] <;> omega
      have hsp := split_is 32 w (by omega)
      have hww : ∀ x ∈ spB 32 w, x.size ≤ 1000000 := fun x h => by have := spB_word 32 w x h; omega
      obtain ⟨p, q, x, y, z, n, hc, hx⟩ := Ranges1_is (spB 32 w) acc hww (by omega)
      simp only [chart_read_Range_b5, d0, d1, d2, if_true, Bool.and_self, Int.toNat_natCast, hg, hsp, Option.bind_some, hc, hwr]
      cases ho : oneRange (spB 32 w) acc with
      | none => simp
      | some x =>
        have := hx x ho
        subst this
        simp
        omega
theorem Ranges_is (s : ByteArray) (hs : s.size ≤ 1000000) : chart_Ranges s = some (resR (readR oneRange (linesOf s) [] 0)) := by
  unfold chart_Ranges
  rw [readRange_is s hs]; rfl

theorem readDecomp_is (s : ByteArray) (hs : s.size ≤ 1000000) : chart_read_Decomp s = some (resR (readR oneDecomp (linesOf s) [] 0)) := by
  unfold chart_read_Decomp linesOf
  rw [beq_nil]
  by_cases h0 : s.size = 0
  · simp [h0, readR, resR]
  · rw [if_neg (by simpa using h0), if_neg h0, split_is 10 s (by omega)]
    simp only [Option.bind_some]
    have hL : (spB 10 s).length ≤ 1000001 := by have := spB_len 10 s; omega
    have hW : ∀ w ∈ spB 10 s, w.size ≤ 1000000 := fun w h => by have := spB_word 10 s w h; omega
    have hn : (spB 10 s).length ≤ s.size + 1 := spB_len 10 s
    generalize spB 10 s = L at *
    have key := read_go chart_read_Decomp_b5 oneDecomp L (fun acc => by simp [chart_read_Decomp_b5]) ?_ L.length 0 [] (by omega) rfl
    · rw [show ((0 : Nat) : Int) = 0 from rfl, List.drop_zero] at key
      rw [key]
      simp only [Option.bind_some]
      cases readR oneDecomp (L.map (spB 32)) [] 0 <;> rfl
    · intro i acc w hw ha hi
      have hm : w ∈ L := List.mem_of_getElem? hw
      have hws := hW w hm
      have d0 : decide ((i : Int) < (L.length : Int)) = true := decide_eq_true (by omega)
      have d1 : decide ((0 : Int) ≤ (i : Int)) = true := decide_eq_true (by omega)
      have d2 : decide (i < L.length) = true := decide_eq_true hi
      have hg : L.getD i ByteArray.empty = w := by rw [List.getD_eq_getElem?_getD, hw]; rfl
      have hwr : IntKind.i64.wrap ((i : Int) + 1) = ((i + 1 : Nat) : Int) := by rw [wrap_i64] <;> omega
      have hsp := split_is 32 w (by omega)
      have hww : ∀ x ∈ spB 32 w, x.size ≤ 1000000 := fun x h => by have := spB_word 32 w x h; omega
      obtain ⟨n, x, y, r, hc, hx⟩ := Decomps1_is (spB 32 w) acc hww (by have := spB_len 32 w; omega) (by omega)
      simp only [chart_read_Decomp_b5, d0, d1, d2, if_true, Bool.and_self, Int.toNat_natCast, hg, hsp, Option.bind_some, hc, hwr]
      cases ho : oneDecomp (spB 32 w) acc with
      | none => simp
      | some x =>
        have := hx x ho
        subst this
        simp
        omega
theorem Decomps_is (s : ByteArray) (hs : s.size ≤ 1000000) : chart_Decomps s = some (resR (readR oneDecomp (linesOf s) [] 0)) := by
  unfold chart_Decomps
  rw [readDecomp_is s hs]; rfl
end Go.Pc

/- What a point becomes in full, by the program: pure. -/
set_option linter.unusedVariables false
set_option linter.unusedSimpArgs false
set_option maxRecDepth 100000
namespace Go.Pc
open Go Go.Sx Go.Tx

abbrev Dc := Int × List Int × Bool × Bool
def zD : Dc := (0, [], false, false)
def Rise (D : List Dc) : Prop := D.Pairwise (fun a b => a.1 < b.1)
def hit (p : Int) (c : Bool) (d : Dc) : Bool := d.1 == p && (c || !d.2.2.1)
def fnd (D : List Dc) (p : Int) (c : Bool) : Option Dc := D.find? (hit p c)

theorem rise_lt {D : List Dc} (h : Rise D) {i j : Nat} (hij : i < j) (hj : j < D.length) : (D.getD i zD).1 < (D.getD j zD).1 := by
  have := List.pairwise_iff_getElem.1 h i j (by omega) hj hij
  simpa [List.getD, List.getElem?_eq_getElem (show i < D.length by omega), List.getElem?_eq_getElem hj] using this

theorem cmpF_is (x y : Int) : cmp_Compare_uint32 x y = some (if x < y then -1 else if x > y then 1 else 0) := by
  unfold cmp_Compare_uint32 cmp_isNaN_uint32
  simp only [bne_self_eq_false, Option.bind_some, Bool.false_eq_true, if_false]
  by_cases h : x < y
  · simp [h]
  · by_cases h2 : x > y
    · simp [h, h2]
    · simp [h, h2]
theorem line1_is (d : Dc) (p : Int) : tables_Tables_line_1 d.1 d.2.2.1 d.2.2.2 p d.2.1 = some (if d.1 < p then -1 else if d.1 > p then 1 else 0, d.2.1) := by
  unfold tables_Tables_line_1
  rw [cmpF_is]; rfl
theorem mid_is (i j : Int) (h0 : 0 ≤ i) (h1 : i < j) (h2 : j ≤ 1000000) : IntKind.i64.wrap (Int.fdiv (IntKind.u64.wrap (IntKind.i64.wrap (i + j))) 2) = (i + j) / 2 := by
  rw [wrap_i64 (i + j) (by omega) (by omega), IntKind.wrap_u64, Int.fdiv_eq_ediv_of_nonneg _ (by omega), wrap_i64] <;> omega

theorem bsearch_is (D : List Dc) (p : Int) (hR : Rise D) (hl : D.length ≤ 1000000) :
    ∃ i : Nat, i ≤ D.length ∧ (∀ k, k < i → (D.getD k zD).1 < p) ∧ (∀ k, i ≤ k → k < D.length → p ≤ (D.getD k zD).1) ∧
      slices_BinarySearchFunc__ p D = some ((i : Int), decide (i < D.length) && decide ((D.getD i zD).1 = p), D) := by
  obtain ⟨x, hx, hQ⟩ := runLoop_inv (b := slices_BinarySearchFunc___b3)
    (fun v => ∃ i j : Nat, v = (p, (D.length : Int), (i : Int), (j : Int), D) ∧ i ≤ j ∧ j ≤ D.length ∧ (∀ k, k < i → (D.getD k zD).1 < p) ∧ (∀ k, j ≤ k → k < D.length → p ≤ (D.getD k zD).1))
    (fun v => (v.2.2.2.1 - v.2.2.1).toNat)
    (fun x => ∃ i : Nat, x = (p, (D.length : Int), (i : Int), D) ∧ i ≤ D.length ∧ (∀ k, k < i → (D.getD k zD).1 < p) ∧ (∀ k, i ≤ k → k < D.length → p ≤ (D.getD k zD).1)) (by
      rintro v ⟨i, j, rfl, hij, hj, ha, hb⟩
      by_cases h : i < j
      · left
        have hm := mid_is i j (by omega) (by omega) (by omega)
        obtain ⟨m, hmm⟩ : ∃ m : Nat, ((i : Int) + j) / 2 = m := ⟨((i : Int) + j).toNat / 2, by omega⟩
        have hmi : i ≤ m := by omega
        have hmj : m < j := by omega
        have d0 : decide ((i : Int) < (j : Int)) = true := decide_eq_true (by omega)
        have d1 : decide ((0 : Int) ≤ (m : Int)) = true := decide_eq_true (by omega)
        have d2 : decide ((m : Int) < (D.length : Int)) = true := decide_eq_true (by omega)
        have d3 : decide (m < D.length) = true := decide_eq_true (by omega)
        have hw : IntKind.i64.wrap ((m : Int) + 1) = ((m + 1 : Nat) : Int) := by rw [wrap_i64] <;> omega
        have hline := line1_is (D.getD m zD) p
        unfold zD at hline
        by_cases hc : (D.getD m zD).1 < p
        · refine ⟨(p, (D.length : Int), ((m + 1 : Nat) : Int), (j : Int), D), ?_, ⟨m + 1, j, rfl, by omega, hj, fun k hk => ?_, hb⟩, by simp only; omega⟩
          · have hc' := hc
            unfold zD at hc'
            rw [if_pos hc'] at hline
            simp only [slices_BinarySearchFunc___b3, d0, hm, hmm, d1, d2, d3, Bool.and_self, if_true, Int.toNat_natCast, hline, Option.bind_some, hw]
            rfl
          · by_cases hk' : k = m
            · subst hk'; exact hc
            · have := rise_lt hR (show k < m by omega) (by omega)
              omega
        · refine ⟨(p, (D.length : Int), (i : Int), (m : Int), D), ?_, ⟨i, m, rfl, hmi, by omega, ha, fun k hk hk2 => ?_⟩, by simp only; omega⟩
          · have hc' := hc
            unfold zD at hc'
            rw [if_neg hc'] at hline
            have hg : decide ((if (D.getD m (0, [], false, false)).1 > p then (1 : Int) else 0) < 0) = false := by
              split <;> rfl
            simp only [slices_BinarySearchFunc___b3, d0, hm, hmm, d1, d2, d3, Bool.and_self, if_true, Int.toNat_natCast, hline, Option.bind_some, hg, Bool.false_eq_true, if_false]
          · by_cases hk' : k = m
            · subst hk'; omega
            · have := rise_lt hR (show m < k by omega) hk2
              omega
      · right
        have d0 : decide ((i : Int) < (j : Int)) = false := decide_eq_false (by omega)
        have : i = j := by omega
        subst this
        exact ⟨_, by simp only [slices_BinarySearchFunc___b3, d0, Bool.false_eq_true, if_false], i, rfl, hj, ha, hb⟩)
    (p, (D.length : Int), ((0 : Nat) : Int), (D.length : Int), D) ⟨0, D.length, rfl, by omega, by omega, fun k hk => by omega, fun k h1 h2 => by omega⟩
  obtain ⟨i, rfl, h1, h2, h3⟩ := hQ
  refine ⟨i, h1, h2, h3, ?_⟩
  unfold slices_BinarySearchFunc__
  have hx' : runLoop slices_BinarySearchFunc___b3 (p, (D.length : Int), (0 : Int), (D.length : Int), D) = some (p, (D.length : Int), (i : Int), D) := hx
  rw [hx']
  simp only [Option.bind_some]
  by_cases hi : i < D.length
  · have d0 : decide ((i : Int) < (D.length : Int)) = true := decide_eq_true (by omega)
    have d1 : decide ((0 : Int) ≤ (i : Int)) = true := decide_eq_true (by omega)
    have d3 : decide (i < D.length) = true := decide_eq_true hi
    have hline := line1_is (D.getD i zD) p
    have hge := h3 i (Nat.le_refl _) hi
    rw [if_neg (by omega)] at hline
    unfold zD at hline hge ⊢
    simp only [d0, d1, d3, Bool.and_self, if_true, Int.toNat_natCast]
    rw [hline]
    simp only [Option.bind_some, Bool.true_and]
    by_cases he : (D.getD i (0, [], false, false)).1 = p
    · have e1 : ¬ (D.getD i (0, [], false, false)).1 > p := by omega
      rw [if_neg e1, decide_eq_true he]; rfl
    · have e1 : (D.getD i (0, [], false, false)).1 > p := by omega
      rw [if_pos e1, decide_eq_false he]; rfl
  · have d0 : decide ((i : Int) < (D.length : Int)) = false := decide_eq_false (by omega)
    simp [d0, hi]

theorem fnd_some {D : List Dc} (hR : Rise D) {i : Nat} (hi : i < D.length) {p : Int} (hp : (D.getD i zD).1 = p) (c : Bool) : fnd D p c = if c || !(D.getD i zD).2.2.1 then some (D.getD i zD) else none := by
  have hg : D.getD i zD = D[i] := by simp [List.getD, List.getElem?_eq_getElem hi]
  rw [hg] at hp ⊢
  have huniq : ∀ d ∈ D, d.1 = p → d = D[i] := by
    intro d hd hdp
    obtain ⟨k, hk, rfl⟩ := List.getElem_of_mem hd
    rcases Nat.lt_trichotomy k i with h | h | h
    · have := List.pairwise_iff_getElem.1 hR k i hk hi h
      omega
    · subst h; rfl
    · have := List.pairwise_iff_getElem.1 hR i k hi hk h
      omega
  unfold fnd
  by_cases hc : (c || !D[i].2.2.1) = true
  · rw [if_pos hc]
    cases hf : D.find? (hit p c) with
    | none =>
      have := List.find?_eq_none.1 hf D[i] (List.getElem_mem hi)
      unfold hit at this
      rw [hp, hc] at this
      simp at this
    | some d =>
      have h1 := List.find?_some hf
      have h2 := List.mem_of_find?_eq_some hf
      unfold hit at h1
      simp only [Bool.and_eq_true, beq_iff_eq] at h1
      rw [huniq d h2 h1.1]
  · rw [if_neg hc]
    apply List.find?_eq_none.2
    intro d hd hh
    unfold hit at hh
    simp only [Bool.and_eq_true, beq_iff_eq] at hh
    rw [huniq d hd hh.1] at hh
    exact hc hh.2
theorem fnd_none {D : List Dc} {p : Int} (h : ∀ k, k < D.length → (D.getD k zD).1 ≠ p) (c : Bool) : fnd D p c = none := by
  apply List.find?_eq_none.2
  intro d hd hh
  obtain ⟨k, hk, rfl⟩ := List.getElem_of_mem hd
  unfold hit at hh
  simp only [Bool.and_eq_true, beq_iff_eq] at hh
  have := h k hk
  simp [List.getD, List.getElem?_eq_getElem hk] at this
  exact this hh.1

section
variable (l1 : List (Int × Int × ByteArray × ByteArray × ByteArray × Bool)) (l2 : List (Int × Int × Int)) (D : List Dc) (l4 l5 : List (Int × Int × Int)) (l6 : List (ByteArray × Int × Int))
theorem line_is (hR : Rise D) (hl : D.length ≤ 1000000) (p : Int) (c : Bool) : tables_Tables_line p c l1 l2 D l4 l5 l6 = some (match fnd D p c with
    | some d => (true, d.1, d.2.2.1, d.2.2.2, l1, l2, D, l4, l5, l6, d.2.1)
    | none => (false, 0, false, false, l1, l2, D, l4, l5, l6, [])) := by
  obtain ⟨i, h1, h2, h3, hb⟩ := bsearch_is D p hR hl
  unfold tables_Tables_line
  rw [hb]
  simp only [Option.bind_some]
  by_cases hi : i < D.length
  · have d1 : decide ((0 : Int) ≤ (i : Int)) = true := decide_eq_true (by omega)
    have d2 : decide ((i : Int) < (D.length : Int)) = true := decide_eq_true (by omega)
    have d3 : decide (i < D.length) = true := decide_eq_true hi
    by_cases he : (D.getD i zD).1 = p
    · rw [fnd_some hR hi he c]
      have e1 : decide ((D.getD i zD).1 = p) = true := decide_eq_true he
      simp only [e1, d1, d2, d3, Bool.and_self, Bool.not_true, Bool.false_eq_true, if_false, if_true, Int.toNat_natCast]
      unfold zD
      cases hX : (D.getD i (0, [], false, false)).2.2.1 <;> cases c <;> (try simp only [hX, Bool.not_true, Bool.not_false, Bool.or_true, Bool.or_false, Bool.false_eq_true, if_true, if_false]) <;> rfl
    · have e1 : decide ((D.getD i zD).1 = p) = false := decide_eq_false he
      rw [fnd_none (fun k hk => by
        rcases Nat.lt_trichotomy k i with h | h | h
        · have := h2 k h; omega
        · subst h; exact he
        · have := rise_lt hR h hk
          have := h3 i (Nat.le_refl _) hi
          omega) c]
      simp only [e1, Bool.and_false, Bool.not_false, if_true]
  · have d3 : decide (i < D.length) = false := decide_eq_false hi
    rw [fnd_none (fun k hk => by have := h2 k (by omega); omega) c]
    simp only [d3, Bool.false_and, Bool.not_false, if_true]

def fullL (f : Int → Option (List Int)) : List Int → Option (List Int)
  | [] => some []
  | x :: r => (f x).bind fun a => (fullL f r).bind fun b => some (a ++ b)
/-- What a point becomes in full, as deep as that. -/
def fullS (D : List Dc) (c : Bool) : Nat → Int → Option (List Int)
  | 0, _ => none
  | n + 1, p => match fnd D p c with
    | none => some [p]
    | some d => fullL (fullS D c n) d.2.1

theorem full_loop (c : Bool) (rec : Int → Bool → (List (Int × Int × ByteArray × ByteArray × ByteArray × Bool)) → (List (Int × Int × Int)) → (List Dc) → (List (Int × Int × Int)) → (List (Int × Int × Int)) → (List (ByteArray × Int × Int)) → Option ((List (Int) × List (Int × Int × ByteArray × ByteArray × ByteArray × Bool) × List (Int × Int × Int) × List (Int × List (Int) × Bool × Bool) × List (Int × Int × Int) × List (Int × Int × Int) × List (ByteArray × Int × Int))))
    (f : Int → Option (List Int)) (hrec : ∀ q l, f q = some l → l.length ≤ 1000 → rec q c l1 l2 D l4 l5 l6 = some (l, l1, l2, D, l4, l5, l6)) (tw : List Int) (hto : tw.length ≤ 1000000) :
    ∀ (n i : Nat) (acc r : List Int), n + i = tw.length → fullL f (tw.drop i) = some r → acc.length + r.length ≤ 1000 →
      runLoop (tables_Tables_full_b6 rec) (c, (tw.length : Int), (i : Int), tw, l1, l2, D, l4, l5, l6, acc) = some (acc ++ r, l1, l2, D, l4, l5, l6) := by
  intro n
  induction n with
  | zero =>
    intro i acc r h1 h2 h3
    have : i = tw.length := by omega
    subst this
    rw [List.drop_length] at h2
    cases h2
    have d0 : decide ((tw.length : Int) < (tw.length : Int)) = false := decide_eq_false (by omega)
    rw [List.append_nil]
    exact runLoop_done (by simp only [tables_Tables_full_b6, d0, Bool.false_eq_true, if_false])
  | succ n ih =>
    intro i acc r h1 h2 h3
    have hi : i < tw.length := by omega
    rw [List.drop_eq_getElem_cons hi] at h2
    unfold fullL at h2
    cases hf : f tw[i] with
    | none => rw [hf] at h2; cases h2
    | some a =>
      rw [hf] at h2
      simp only [Option.bind_some] at h2
      cases hg : fullL f (tw.drop (i + 1)) with
      | none => rw [hg] at h2; cases h2
      | some b =>
        rw [hg] at h2
        cases h2
        rw [List.length_append] at h3
        have hr := hrec _ _ hf (by omega)
        have d0 : decide ((i : Int) < (tw.length : Int)) = true := decide_eq_true (by omega)
        have d1 : decide ((0 : Int) ≤ (i : Int)) = true := decide_eq_true (by omega)
        have d2 : decide (i < tw.length) = true := decide_eq_true hi
        have hgd : tw.getD i 0 = tw[i] := by simp [List.getD, List.getElem?_eq_getElem hi]
        have hw : IntKind.i64.wrap ((i : Int) + 1) = ((i + 1 : Nat) : Int) := by rw [wrap_i64] <;> omega
        have hlen : decide ((acc.length + a.length) * 4 ≤ 140737488355328) = true := decide_eq_true (by omega)
        rw [runLoop_step (v' := (c, (tw.length : Int), ((i + 1 : Nat) : Int), tw, l1, l2, D, l4, l5, l6, acc ++ a)) (by simp only [tables_Tables_full_b6, d0, d1, d2, Bool.and_self, if_true, Int.toNat_natCast, hgd, hr, Option.bind_some, hlen, hw])]
        rw [ih (i + 1) (acc ++ a) b (by omega) hg (by rw [List.length_append]; omega), List.append_assoc]

theorem full_n (hR : Rise D) (hl : D.length ≤ 1000000) (hT : ∀ d ∈ D, d.2.1.length ≤ 1000000) (c : Bool) : ∀ (n : Nat) (p : Int) (l : List Int), fullS D c n p = some l → l.length ≤ 1000 →
    tables_Tables_full_n n p c l1 l2 D l4 l5 l6 = some (l, l1, l2, D, l4, l5, l6) := by
  intro n
  induction n with
  | zero => intro p l h; cases h
  | succ n ih =>
    intro p l h hlen
    unfold fullS at h
    unfold tables_Tables_full_n tables_Tables_full_r
    rw [line_is l1 l2 D l4 l5 l6 hR hl]
    cases hf : fnd D p c with
    | none =>
      rw [hf] at h
      cases h
      rfl
    | some d =>
      rw [hf] at h
      have hd := hT d (List.mem_of_find?_eq_some hf)
      have key := full_loop l1 l2 D l4 l5 l6 c (tables_Tables_full_n n) (fullS D c n) ih d.2.1 hd d.2.1.length 0 [] l (by omega) (by rw [List.drop_zero]; exact h) (by simpa using hlen)
      simp only [Option.bind_some, Bool.not_true, Bool.false_eq_true, if_false]
      have key' : runLoop (tables_Tables_full_b6 (tables_Tables_full_n n)) (c, (d.2.1.length : Int), (0 : Int), d.2.1, l1, l2, D, l4, l5, l6, []) = some ([] ++ l, l1, l2, D, l4, l5, l6) := key
      rw [key']
      rfl
theorem full_is (hR : Rise D) (hl : D.length ≤ 1000000) (hT : ∀ d ∈ D, d.2.1.length ≤ 1000000) (c : Bool) (p : Int) (l : List Int) (h : fullS D c 64 p = some l) (hlen : l.length ≤ 1000) :
    tables_Tables_full p c l1 l2 D l4 l5 l6 = some (l, l1, l2, D, l4, l5, l6) := full_n l1 l2 D l4 l5 l6 hR hl hT c 64 p l h hlen
end
end Go.Pc
