/- Part 16 of the proof of the statement that the last part names; it asks for no condition of its own. Here: TxRun3. -/
import Derived.Test.YtgkfbembnlgahaaDoorQal
set_option linter.unusedVariables false
namespace Go.Sx
open Go
theorem find_at : ∀ (l : List TEnt) (k : Nat), (∀ (i : Nat) (e : TEnt), l[i]? = some e → e.name = k + i) → ∀ b, findE (eraH l) b = if b < k then none else (l[b - k]?).map eraE
  | [], k, _, b => by simp [eraH, findE]
  | e :: r, k, h, b => by
    have h0 := h 0 e rfl
    have ih := find_at r (k + 1) (fun i e' he => by have := h (i + 1) e' (by simpa using he); omega) b
    simp only [eraH, List.map_cons, findE, eraE]
    simp only [eraH] at ih
    by_cases hb : e.name = b
    · rw [if_pos hb, if_neg (by omega)]
      have : b - k = 0 := by omega
      rw [this]
      rfl
    · rw [if_neg hb, ih]
      by_cases h1 : b < k
      · rw [if_pos (by omega), if_pos h1]
      · rw [if_neg (by omega), if_neg h1]
        obtain ⟨j, hj⟩ : ∃ j, b - k = j + 1 := ⟨b - k - 1, by omega⟩
        rw [hj, show b - (k + 1) = j by omega]
        rfl
def rhoOf (xs : List Value) : Rho := fun b u => if u = 0 then xs[b]? else none
theorem HRel.rows {w : World} {ents : List TEnt} {xs : List Value} (hl : xs.length = ents.length)
    (h : ∀ (i : Nat) (e : TEnt), ents[i]? = some e → e.name = i ∧ e.ver = 0 ∧ ∃ x, xs[i]? = some x ∧ holds (rhoOf xs) x (fun _ => False) (fun k => k < w.heap.size) w (eraO e.obj)) :
    HRel (fun _ => False) (fun k => k < w.heap.size) (rhoOf xs) (fun _ _ => False) (findE (eraH ents)) w := by
  have hf : ∀ b, findE (eraH ents) b = (ents[b]?).map eraE := fun b => by
    have := find_at ents 0 (fun i e he => by rw [Nat.zero_add]; exact (h i e he).1) b
    simpa using this
  constructor
  · intro b e he
    rw [hf] at he
    cases hb : ents[b]? with
    | none => rw [hb] at he; cases he
    | some t =>
      rw [hb] at he
      simp only [Option.map_some, Option.some.injEq] at he
      subst he
      obtain ⟨h1, h2, x, h3, h4⟩ := h b t hb
      exact ⟨h1, x, by unfold rhoOf; simp only [eraE, h2, if_true]; exact h3, h4⟩
  · intro b hb k hk; exact hk
  · intro b u hne
    unfold rhoOf at hne
    split at hne
    · rename_i hu
      subst hu
      have hlt : b < ents.length := by
        rw [← hl]
        exact Decidable.byContradiction fun hc => hne (List.getElem?_eq_none (by omega))
      unfold nextOf
      rw [hf, List.getElem?_eq_getElem hlt]
      simp
    · exact absurd rfl hne
  · intro b u x hx
    unfold rhoOf at hx
    split at hx
    · have hlt : b < xs.length := (List.getElem?_eq_some_iff.1 hx).1
      obtain ⟨_, _, x', h3, h4⟩ := h b (ents[b]'(by omega)) (List.getElem?_eq_getElem (by omega))
      rw [hx] at h3
      cases h3
      exact h4.one
    · cases hx
  · intro b b' k h; exact h.elim
  · intro b k h; exact h.elim
  · intro k hk; exact ⟨fun h => h, hk⟩
  · intro k h; exact h.elim
theorem calls_rows {P : Program} {gl : Glob} {f : FuncId} {S : TSum} {args : List SVal} {vals : Array Value} {v : Vars S.pat.vars} {o : S.O} {val : Value} {w : World} {ents : List TEnt} {xs : List Value} (hV : ValidS P gl f S)
    (hu : unCall S.pat args ents = some v) (hF : S.F v = some o) (hr : (S.res o).1 = .v val) (hl : xs.length = ents.length)
    (h : ∀ (i : Nat) (e : TEnt), ents[i]? = some e → e.name = i ∧ e.ver = 0 ∧ ∃ x, xs[i]? = some x ∧ holds (rhoOf xs) x (fun _ => False) (fun k => k < w.heap.size) w (eraO e.obj))
    (hd : DL (rhoOf xs) args vals.toList) (hg : GLw gl w) :
    Calls P f vals w fun e w' => e = .returned val ∧ Go.RowKit.Below w.heap.size w w' := by
  have hf : ∀ b, findE (eraH ents) b = (ents[b]?).map eraE := fun b => by
    have := find_at ents 0 (fun i e he => by rw [Nat.zero_add]; exact (h i e he).1) b
    simpa using this
  have hel : (eraH ents).length = ents.length := by simp [eraH]
  have hc := hV args ents v o hu hF (fun _ => False) (fun k => k < w.heap.size) (rhoOf xs) (fun _ _ => False) w vals
    (fun g o hgo => by
      have h1 := hg g o hgo
      exact ⟨.inl (Array.getElem?_eq_some_iff.1 h1).1, h1⟩)
    (HRel.rows hl h) (fun b u hb => by
      unfold rhoOf at hb
      split at hb
      · rename_i hu0
        refine ⟨hu0, ?_⟩
        rw [hel, ← hl]
        exact Decidable.byContradiction fun hc => hb (List.getElem?_eq_none (by omega))
      · exact absurd rfl hb) (fun b => by
      rw [hf, hel]
      cases hb : ents[b]? with
      | none => simp; exact List.getElem?_eq_none_iff.1 hb
      | some t => simp; exact (List.getElem?_eq_some_iff.1 hb).1) hd
  refine hc.mono ?_
  rintro e w' ⟨x, ρ', own', RO', he, _, hD, _, _, ha⟩
  rw [hr] at hD
  refine ⟨by rw [he]; exact congrArg _ hD, ha.os, ha.tape, ha.output, ha.size, fun k hk => ha.block k (.inl hk)⟩
end Go.Sx
