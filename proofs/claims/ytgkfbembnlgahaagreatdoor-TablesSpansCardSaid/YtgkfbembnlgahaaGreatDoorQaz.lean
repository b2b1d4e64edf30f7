/- Part 26 of the proof of the statement that the last part names; it asks for no condition of its own. Here: PcSpan. -/
import Derived.Test.YtgkfbembnlgahaaGreatDoorQab
set_option linter.unusedVariables false
set_option linter.unusedSimpArgs false
namespace Go.Pc
open Go Go.Sx
abbrev Sp := Int × Int
theorem wrap_u32' (n : Int) (h0 : 0 ≤ n) (h1 : n ≤ 4294967295) : IntKind.u32.wrap n = n := by
  unfold IntKind.wrap
  have e : (2 ^ IntKind.u32.bits : Int) = 4294967296 := by decide
  have e2 : IntKind.u32.signed = false := rfl
  simp only [e, e2, Bool.false_and, Bool.false_eq_true, if_false]
  omega
def InL (l : List Sp) (p : Int) : Prop := ∃ s ∈ l, s.1 ≤ p ∧ p ≤ s.2
def Top : Int := 4294967295
def okS (s : Sp) : Prop := 0 ≤ s.1 ∧ s.1 ≤ Top ∧ 0 ≤ s.2 ∧ s.2 ≤ Top

theorem InL_nil (p : Int) : ¬ InL [] p := fun ⟨_, h, _⟩ => by cases h
theorem InL_cons (s : Sp) (l : List Sp) (p : Int) : InL (s :: l) p ↔ (s.1 ≤ p ∧ p ≤ s.2) ∨ InL l p := by
  constructor
  · rintro ⟨t, ht, h⟩
    rcases List.mem_cons.1 ht with rfl | ht
    · exact .inl h
    · exact .inr ⟨t, ht, h⟩
  · rintro (h | ⟨t, ht, h⟩)
    · exact ⟨s, List.mem_cons_self, h⟩
    · exact ⟨t, List.mem_cons_of_mem _ ht, h⟩
theorem InL_append (l m : List Sp) (p : Int) : InL (l ++ m) p ↔ InL l p ∨ InL m p := by
  constructor
  · rintro ⟨t, ht, h⟩
    rcases List.mem_append.1 ht with ht | ht
    · exact .inl ⟨t, ht, h⟩
    · exact .inr ⟨t, ht, h⟩
  · rintro (⟨t, ht, h⟩ | ⟨t, ht, h⟩)
    · exact ⟨t, List.mem_append.2 (.inl ht), h⟩
    · exact ⟨t, List.mem_append.2 (.inr ht), h⟩
theorem InL_perm {l m : List Sp} (h : l.Perm m) (p : Int) : InL l p ↔ InL m p := by
  constructor
  · rintro ⟨t, ht, h'⟩; exact ⟨t, h.mem_iff.1 ht, h'⟩
  · rintro ⟨t, ht, h'⟩; exact ⟨t, h.mem_iff.2 ht, h'⟩
theorem InL_rev (l : List Sp) (p : Int) : InL l.reverse p ↔ InL l p := InL_perm (List.reverse_perm l) p

def MR : List Sp → Prop
  | [] => True
  | [x] => x.1 ≤ x.2
  | x :: y :: r => x.1 ≤ x.2 ∧ y.2 + 1 < x.1 ∧ MR (y :: r)
theorem MR_tail {x : Sp} {r : List Sp} (h : MR (x :: r)) : MR r := by
  cases r with
  | nil => trivial
  | cons y r => exact h.2.2
theorem MR_head {x : Sp} {r : List Sp} (h : MR (x :: r)) : x.1 ≤ x.2 := by
  cases r with
  | nil => exact h
  | cons y r => exact h.1
theorem MR_ok : ∀ {l : List Sp}, MR l → ∀ s ∈ l, s.1 ≤ s.2
  | [], _, s, hs => by cases hs
  | x :: r, h, s, hs => by
    rcases List.mem_cons.1 hs with rfl | hs
    · exact MR_head h
    · exact MR_ok (MR_tail h) s hs

def mStep : List Sp → Sp → List Sp
  | [], s => [s]
  | x :: r, s => if x.2 = Top ∨ s.1 ≤ x.2 + 1 then (x.1, max x.2 s.2) :: r else s :: x :: r
def mAll (l : List Sp) : List Sp := l.foldl mStep []

structure MInv (l acc : List Sp) : Prop where
  mr : MR acc
  same : ∀ p, p ≤ Top → (InL acc p ↔ InL l p)
  le : ∀ x ∈ acc, ∃ y ∈ l, x.1 = y.1
  top : ∀ x ∈ acc, 0 ≤ x.1 ∧ x.2 ≤ Top
  len : acc.length ≤ l.length
  ne : l ≠ [] → acc ≠ []
theorem mStep_cons (x : Sp) (r : List Sp) (s : Sp) : mStep (x :: r) s = if x.2 = Top ∨ s.1 ≤ x.2 + 1 then (x.1, max x.2 s.2) :: r else s :: x :: r := rfl
theorem MInv.nil : MInv [] [] := ⟨trivial, fun _ _ => Iff.rfl, (fun _ h => by cases h), (fun _ h => by cases h), Nat.le_refl _, fun h => absurd rfl h⟩
theorem MInv.step {l acc : List Sp} (h : MInv l acc) {s : Sp} (hs : okS s) (hv : s.1 ≤ s.2) (hb : ∀ x ∈ l, x.1 ≤ s.1) : MInv (l ++ [s]) (mStep acc s) := by
  have hsame : ∀ p, (InL (l ++ [s]) p ↔ InL l p ∨ (s.1 ≤ p ∧ p ≤ s.2)) := fun p => by
    rw [InL_append, InL_cons]
    exact ⟨fun h => h.elim .inl fun h => .inr (h.elim id fun h => absurd h (InL_nil p)), fun h => h.elim .inl fun h => .inr (.inl h)⟩
  cases acc with
  | nil =>
    refine ⟨hv, fun p hp => ?_, fun x hx => ⟨s, by simp, ?_⟩, fun x hx => ?_, by simp [mStep], fun _ => by simp [mStep]⟩
    · rw [hsame, ← h.same p hp]
      show InL [s] p ↔ _
      rw [InL_cons]
      exact ⟨fun h => h.elim .inr fun h => absurd h (InL_nil p), fun h => h.elim (fun h => absurd h (InL_nil p)) .inl⟩
    · rw [List.mem_singleton.1 hx]
    · rw [List.mem_singleton.1 hx]; exact ⟨hs.1, hs.2.2.2⟩
  | cons x r =>
    obtain ⟨y, hy, hxy⟩ := h.le x List.mem_cons_self
    have hx1 : x.1 ≤ s.1 := by rw [hxy]; exact hb y hy
    have hx2 := MR_head h.mr
    have hxt := h.top x List.mem_cons_self
    have hst := hs.2.2.2
    rw [mStep_cons]
    split
    · rename_i hc
      have hmax : x.2 ≤ max x.2 s.2 ∧ s.2 ≤ max x.2 s.2 ∧ (max x.2 s.2 = x.2 ∨ max x.2 s.2 = s.2) := by omega
      refine ⟨?_, fun p hp => ?_, fun z hz => ?_, fun z hz => ?_, ?_, fun _ => by simp⟩
      · cases r with
        | nil => show x.1 ≤ max x.2 s.2; omega
        | cons z r => exact ⟨show x.1 ≤ max x.2 s.2 by omega, h.mr.2.1, h.mr.2.2⟩
      · rw [hsame, ← h.same p hp, InL_cons, InL_cons]
        constructor
        · rintro (⟨h1, h2⟩ | h3)
          · simp only at h1 h2
            by_cases hp2 : p ≤ x.2
            · exact .inl (.inl ⟨h1, hp2⟩)
            · exact .inr ⟨by omega, by omega⟩
          · exact .inl (.inr h3)
        · rintro ((⟨h1, h2⟩ | h3) | ⟨h1, h2⟩)
          · exact .inl ⟨h1, by simp only; omega⟩
          · exact .inr h3
          · exact .inl ⟨by simp only; omega, by simp only; omega⟩
      · rcases List.mem_cons.1 hz with rfl | hz
        · exact ⟨y, List.mem_append.2 (.inl hy), hxy⟩
        · obtain ⟨y', hy', e⟩ := h.le z (List.mem_cons_of_mem _ hz)
          exact ⟨y', List.mem_append.2 (.inl hy'), e⟩
      · rcases List.mem_cons.1 hz with rfl | hz
        · exact ⟨hxt.1, by simp only; omega⟩
        · exact h.top z (List.mem_cons_of_mem _ hz)
      · have := h.len
        simp only [List.length_cons, List.length_append, List.length_nil] at this ⊢
        omega
    · rename_i hc
      have hc1 : x.2 + 1 < s.1 := by omega
      refine ⟨⟨hv, hc1, h.mr⟩, fun p hp => ?_, fun z hz => ?_, fun z hz => ?_, ?_, fun _ => by simp⟩
      · rw [hsame, ← h.same p hp, InL_cons]
        exact Or.comm
      · rcases List.mem_cons.1 hz with rfl | hz
        · exact ⟨z, List.mem_append.2 (.inr (by simp)), rfl⟩
        · obtain ⟨y', hy', e⟩ := h.le z hz
          exact ⟨y', List.mem_append.2 (.inl hy'), e⟩
      · rcases List.mem_cons.1 hz with rfl | hz
        · exact ⟨hs.1, hs.2.2.2⟩
        · exact h.top z hz
      · have := h.len
        simp only [List.length_cons, List.length_append, List.length_nil] at this ⊢
        omega
theorem MInv.all : ∀ (m l acc : List Sp), MInv l acc → (∀ s ∈ m, okS s ∧ s.1 ≤ s.2) → (l ++ m).Pairwise (fun a b => a.1 ≤ b.1) → MInv (l ++ m) (m.foldl mStep acc)
  | [], l, acc, h, _, _ => by rw [List.append_nil]; exact h
  | s :: m, l, acc, h, hm, hp => by
    have e : l ++ s :: m = (l ++ [s]) ++ m := by rw [List.append_assoc]; rfl
    rw [e] at hp ⊢
    refine MInv.all m (l ++ [s]) (mStep acc s) (h.step (hm s List.mem_cons_self).1 (hm s List.mem_cons_self).2 fun x hx => ?_) (fun t ht => hm t (List.mem_cons_of_mem _ ht)) hp
    have := (List.pairwise_append.1 hp).1
    exact (List.pairwise_append.1 this).2.2 x hx s (by simp)
theorem mAll_inv {l : List Sp} (hm : ∀ s ∈ l, okS s ∧ s.1 ≤ s.2) (hp : l.Pairwise (fun a b => a.1 ≤ b.1)) : MInv l (mAll l) := MInv.all l [] [] MInv.nil hm hp

def MF (l : List Sp) : Prop := MR l.reverse
theorem MR_split : ∀ {a b : List Sp}, MR (a ++ b) → MR b
  | [], b, h => h
  | _ :: a, b, h => MR_split (MR_tail (r := a ++ b) h)
theorem MF_at {l : List Sp} (h : MF l) {i : Nat} {x y : Sp} (hx : l[i]? = some x) (hy : l[i + 1]? = some y) : x.2 + 1 < y.1 := by
  have hi : i + 1 < l.length := by
    have := List.getElem?_eq_some_iff.1 hy
    exact this.1
  have e : l = l.take i ++ x :: y :: l.drop (i + 2) := by
    have h1 : l.drop i = x :: l.drop (i + 1) := by
      rw [List.drop_eq_getElem_cons (by omega)]
      congr 1
      rw [List.getElem?_eq_getElem (by omega)] at hx
      exact Option.some.inj hx
    have h2 : l.drop (i + 1) = y :: l.drop (i + 2) := by
      rw [List.drop_eq_getElem_cons hi]
      congr 1
      rw [List.getElem?_eq_getElem hi] at hy
      exact Option.some.inj hy
    conv => lhs; rw [← List.take_append_drop i l, h1, h2]
  unfold MF at h
  rw [e, List.reverse_append, List.reverse_cons, List.reverse_cons, List.append_assoc, List.append_assoc] at h
  have h' := MR_split h
  exact h'.2.1
theorem MF_ok {l : List Sp} (h : MF l) : ∀ s ∈ l, s.1 ≤ s.2 := fun s hs => MR_ok h s (List.mem_reverse.2 hs)

def Lst : Int := 1114111
structure OInv (done rest acc : List Sp) (fr : Int) : Prop where
  mr : MR acc
  acc_b : ∀ x ∈ acc, 0 ≤ x.1 ∧ x.2 + 1 < fr
  fr0 : 0 ≤ fr ∧ fr ≤ Lst + 1
  same : ∀ p, 0 ≤ p → p < fr → (InL acc p ↔ ¬ InL done p)
  below : ∀ s ∈ done, s.2 < fr ∨ fr = Lst + 1
  last : fr = 0 ∨ ∃ z ∈ done, fr ≤ z.2 + 1
  ord : (done ++ rest).Pairwise (fun a b => a.2 + 1 < b.1)
  ok : ∀ s ∈ done ++ rest, 0 ≤ s.1 ∧ s.1 ≤ s.2
  len : acc.length ≤ done.length
theorem OInv.ahead {done rest acc : List Sp} {fr : Int} (h : OInv done rest acc fr) : ∀ s ∈ rest, fr ≤ s.1 := fun s hs => by
  have := (h.ok s (List.mem_append.2 (.inr hs))).1
  rcases h.last with h0 | ⟨z, hz, hle⟩
  · omega
  · have := (List.pairwise_append.1 h.ord).2.2 z hz s hs
    omega
theorem OInv.start {l : List Sp} (ho : l.Pairwise (fun a b => a.2 + 1 < b.1)) (hk : ∀ s ∈ l, 0 ≤ s.1 ∧ s.1 ≤ s.2) : OInv [] l [] 0 :=
  ⟨trivial, (fun _ h => by cases h), ⟨Int.le_refl _, by decide⟩, fun p h0 h1 => by omega, (fun _ h => by cases h), .inl rfl, ho, hk, Nat.le_refl _⟩
theorem OInv.step {done rest acc : List Sp} {fr : Int} {s : Sp} (h : OInv done (s :: rest) acc fr) (h1 : s.1 ≤ Lst) (h2 : fr ≤ Lst) :
    OInv (done ++ [s]) rest (if s.1 > fr then (fr, s.1 - 1) :: acc else acc) (min s.2 Lst + 1) := by
  have hs := h.ok s (List.mem_append.2 (.inr List.mem_cons_self))
  have ha := h.ahead s List.mem_cons_self
  have hm : (min s.2 Lst = s.2 ∨ min s.2 Lst = Lst) ∧ min s.2 Lst ≤ s.2 ∧ min s.2 Lst ≤ Lst := by omega
  have e : (done ++ [s]) ++ rest = done ++ s :: rest := by rw [List.append_assoc]; rfl
  have hnd : ∀ p, fr ≤ p → ¬ InL done p := by
    rintro p hp ⟨z, hz, hz1, hz2⟩
    rcases h.below z hz with hb | hb
    · omega
    · omega
  have hIn : ∀ p, (InL (done ++ [s]) p ↔ InL done p ∨ (s.1 ≤ p ∧ p ≤ s.2)) := fun p => by
    rw [InL_append, InL_cons]
    exact ⟨fun h => h.elim .inl fun h => .inr (h.elim id fun h => absurd h (InL_nil p)), fun h => h.elim .inl fun h => .inr (.inl h)⟩
  refine ⟨?_, ?_, ⟨by have := h.fr0; omega, by omega⟩, ?_, ?_, ?_, by rw [e]; exact h.ord, by rw [e]; exact h.ok, ?_⟩
  · split
    · rename_i hg
      cases acc with
      | nil => show fr ≤ s.1 - 1; omega
      | cons y r => exact ⟨show fr ≤ s.1 - 1 by omega, (h.acc_b y List.mem_cons_self).2, h.mr⟩
    · exact h.mr
  · have base : ∀ x ∈ acc, 0 ≤ x.1 ∧ x.2 + 1 < min s.2 Lst + 1 := fun x hx => by
      have := h.acc_b x hx
      omega
    split
    · intro x hx
      rcases List.mem_cons.1 hx with rfl | hx
      · have := h.fr0
        refine ⟨this.1, ?_⟩
        simp only
        omega
      · exact base x hx
    · exact base
  · intro p h0 hp
    rw [hIn]
    by_cases hpf : p < fr
    · have key : InL (if s.1 > fr then (fr, s.1 - 1) :: acc else acc) p ↔ InL acc p := by
        split
        · rw [InL_cons]
          exact ⟨fun h => h.elim (fun h => by simp only at h; omega) id, .inr⟩
        · exact Iff.rfl
      rw [key, h.same p h0 hpf]
      exact ⟨fun hn hc => hc.elim hn (fun hc => by omega), fun hn hc => hn (.inl hc)⟩
    · have hn := hnd p (by omega)
      have hacc : ¬ InL acc p := by
        rintro ⟨z, hz, hz1, hz2⟩
        have := h.acc_b z hz
        omega
      by_cases hps : p < s.1
      · rw [if_pos (by omega)]
        rw [InL_cons]
        exact ⟨fun _ hc => hc.elim hn (fun hc => by omega), fun _ => .inl ⟨by simp only; omega, by simp only; omega⟩⟩
      · have hin : s.1 ≤ p ∧ p ≤ s.2 := ⟨by omega, by omega⟩
        refine ⟨fun hc => ?_, fun hc => absurd (.inr hin) hc⟩
        exfalso
        split at hc
        · rw [InL_cons] at hc
          rcases hc with hc | hc
          · simp only at hc; omega
          · exact hacc hc
        · exact hacc hc
  · intro z hz
    rcases List.mem_append.1 hz with hz | hz
    · have := (List.pairwise_append.1 h.ord).2.2 z hz s List.mem_cons_self
      omega
    · rw [List.mem_singleton.1 hz]
      omega
  · exact .inr ⟨s, by simp, by omega⟩
  · have := h.len
    split <;> simp only [List.length_cons, List.length_append, List.length_nil] <;> omega
def oEnd (acc : List Sp) (fr : Int) : List Sp := if fr ≤ Lst then (fr, Lst) :: acc else acc
theorem OInv.fin {done rest acc : List Sp} {fr : Int} (h : OInv done rest acc fr) (hr : ∀ s ∈ rest, Lst < s.1 ∨ Lst < fr) :
    MR (oEnd acc fr) ∧ (∀ p, 0 ≤ p → (InL (oEnd acc fr) p ↔ ¬ InL (done ++ rest) p ∧ p ≤ Lst)) ∧ (oEnd acc fr).length ≤ done.length + 1 ∧ ∀ x ∈ oEnd acc fr, 0 ≤ x.1 ∧ x.2 ≤ Lst := by
  have hf := h.fr0
  refine ⟨?_, ?_, ?_, ?_⟩
  · unfold oEnd
    split
    · rename_i hg
      cases acc with
      | nil => exact hg
      | cons y r => exact ⟨hg, (h.acc_b y List.mem_cons_self).2, h.mr⟩
    · exact h.mr
  · intro p h0
    have hrest : p ≤ Lst → ¬ InL rest p := by
      rintro hp ⟨z, hz, hz1, hz2⟩
      have := h.ahead z hz
      rcases hr z hz with hb | hb
      · omega
      · omega
    have hAL : ¬ p ≤ Lst → ¬ InL acc p := by
      rintro hp ⟨z, hz, hz1, hz2⟩
      have := h.acc_b z hz
      omega
    rw [InL_append]
    by_cases hp : p ≤ Lst
    · have hr' := hrest hp
      by_cases hpf : p < fr
      · have key : InL (oEnd acc fr) p ↔ InL acc p := by
          unfold oEnd
          split
          · rw [InL_cons]
            exact ⟨fun h => h.elim (fun h => by simp only at h; omega) id, .inr⟩
          · exact Iff.rfl
        rw [key, h.same p h0 hpf]
        exact ⟨fun hn => ⟨fun hc => hc.elim hn hr', hp⟩, fun hn hc => hn.1 (.inl hc)⟩
      · have hd : ¬ InL done p := by
          rintro ⟨z, hz, hz1, hz2⟩
          rcases h.below z hz with hb | hb <;> omega
        unfold oEnd
        rw [if_pos (by omega), InL_cons]
        exact ⟨fun _ => ⟨fun hc => hc.elim hd hr', hp⟩, fun _ => .inl ⟨by simp only; omega, hp⟩⟩
    · refine ⟨fun hc => ?_, fun hc => absurd hc.2 hp⟩
      exfalso
      unfold oEnd at hc
      split at hc
      · rw [InL_cons] at hc
        rcases hc with hc | hc
        · have := hc.2; omega
        · exact hAL hp hc
      · exact hAL hp hc
  · have := h.len
    unfold oEnd
    split <;> (try simp only [List.length_cons]) <;> omega
  · intro x hx
    unfold oEnd at hx
    split at hx
    · rcases List.mem_cons.1 hx with rfl | hx
      · exact ⟨hf.1, Int.le_refl _⟩
      · have := h.acc_b x hx
        omega
    · have := h.acc_b x hx
      omega
end Go.Pc
