/- Part 16 of the proof of the statement that the last part names; it asks for no condition of its own. Here: TxRun. -/
import Derived.Test.YtgkfbembnlgahaaGreatDoorQag
/- From a contract to a call: arguments that are plain values, a plain value as the result. -/
set_option linter.unusedVariables false
namespace Go.Sx
open Go

theorem HRel.start (w : World) : HRel (fun _ => False) (fun k => k < w.heap.size) (fun _ _ => none) (fun _ _ => False) (findE []) w where
  ent b e h := by cases h
  non b h k hk := hk
  dom b u h := absurd rfl h
  one b u x h := by cases h
  disj b b' k h _ := h.elim
  ro b k h := h.elim
  rofr k h := ⟨fun h => h, h⟩
  fr k h := h.elim

theorem calls_simple {P : Program} {gl : Glob} {f : FuncId} {S : TSum} {args : List SVal} {vals : Array Value} {v : Vars S.pat.vars} {o : S.O} {val : Value} {w : World} (hV : ValidS P gl f S)
    (hu : unCall S.pat args [] = some v) (hF : S.F v = some o) (hr : S.res o = (.v val, [])) (hd : ∀ ρ, DL ρ args vals.toList) (hg : GLw gl w) :
    Calls P f vals w fun e w' => e = .returned val ∧ Go.RowKit.Below w.heap.size w w' := by
  have h := hV args [] v o hu hF (fun _ => False) (fun k => k < w.heap.size) (fun _ _ => none) (fun _ _ => False) w vals
    (fun g o hgo => by
      have h1 := hg g o hgo
      refine ⟨.inl ?_, h1⟩
      exact (Array.getElem?_eq_some_iff.1 h1).1)
    (HRel.start w) (fun b u hb => absurd rfl hb) (fun b => by simp [eraH, findE]) (hd _)
  refine h.mono ?_
  rintro e w' ⟨x, ρ', own', RO', he, _, hD, _, _, ha⟩
  rw [hr] at hD
  refine ⟨by rw [he]; exact congrArg _ hD, ha.os, ha.tape, ha.output, ha.size, fun k hk => ha.block k (.inl hk)⟩
end Go.Sx
