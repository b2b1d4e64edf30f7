/- Part 32 of the proof of the statement that the last part names; it asks for no condition of its own. Here: RowSp. -/
import Derived.Test.YtgkfbembnlgahaaGreatDoorQbd
import Derived.Test.YtgkfbembnlgahaaGreatDoorQbe
import Derived.Test.YtgkfbembnlgahaaGreatDoorQal
import Derived.Test.YtgkfbembnlgahaaGreatDoorQat
import Derived.ChangeSlices
import Derived.DataElems
import Derived.ChangeOld
import Derived.Carry
/- Slices of spans, as a row hands them in. -/
set_option linter.unusedVariables false
set_option maxRecDepth 100000
namespace Go.Proofs.YtgkfbembnlgahaaGreatDoor
open Go Go.Sx Go.Tx Go.ChangeShapes Go.WideShapes Go.ChangeAt Go.WideElems Go.RowKit

theorem wf_u32 {n : Int} (h : (Lit.int .u32 n).wf = true) : 0 ≤ n ∧ n ≤ 4294967295 := by
  have h' : (decide (IntKind.u32.min ≤ n) && decide (n ≤ IntKind.u32.max)) = true := h
  rw [Bool.and_eq_true, decide_eq_true_eq, decide_eq_true_eq] at h'
  have e1 : IntKind.u32.min = 0 := by decide
  have e2 : IntKind.u32.max = 4294967295 := by decide
  rw [e1, e2] at h'
  exact h'
section
variable {H : Type} {enc : TypeId × Value → H} {W : World} {base : Nat} {sp : Nat → Bool} {held : Bool}
theorem cells83 : Tryz.prog.cellsOf 83 = 2 := by kernel_rfl
theorem cells22 : Tryz.prog.cellsOf 22 = 1 := by kernel_rfl
theorem trod_span {fuel : Nat} {cs : List Value} {y : DataW H × List MemPlace} (h : DataW.trod enc Tryz.prog W base sp held fuel 83 cs = some y) :
    ∃ a b : Int, cs = [.int .u32 a, .int .u32 b] ∧ (Lit.int .u32 a).wf = true ∧ (Lit.int .u32 b).wf = true := by
  obtain ⟨xs, n, rfl, rfl, hl, hx, hf⟩ := DataW.trod_struct Tryz.underlying83 h
  rw [cells83] at hl
  match cs, hl with
  | [x, y], _ =>
    have h0 := hf 0 _ rfl
    have h1 := hf 1 _ rfl
    change DataW.trod enc Tryz.prog W base sp held n 22 (([x, y].drop 0).take (Tryz.prog.cellsOf 22)) = _ at h0
    change DataW.trod enc Tryz.prog W base sp held n 22 (([x, y].drop 1).take (Tryz.prog.cellsOf 22)) = _ at h1
    rw [cells22] at h0 h1
    have hx' : xs.length = 2 := hx
    match xs, hx' with
    | [p, q], _ =>
      obtain ⟨a, ha, _, wa⟩ := DataW.trod_int Tryz.underlying22 (x := p) h0
      obtain ⟨b, hb, _, wb⟩ := DataW.trod_int Tryz.underlying22 (x := q) h1
      have ea : x = .int .u32 a := by simpa using ha
      have eb : y = .int .u32 b := by simpa using hb
      exact ⟨a, b, by rw [ea, eb], wa, wb⟩
theorem open_spans {b0 : Nat} {r : Reach} {v : Value} {d : DataW H} {ps : List MemPlace} {ρ : Rho} (hval : Value.okWide Tryz.prog W r b0 107 v) (hd : DataW.Trod enc Tryz.prog W 0 sp held 107 v d ps) :
    ∃ l : List (Int × Int), (∀ s ∈ l, Go.Pc.okS s) ∧ holds ρ v (fun _ => False) (fun k => k < W.heap.size) W (.row false 83 2 (rowsSp l)) := by
  obtain ⟨a0, n0, c0, rfl⟩ := okWide_slice Tryz.underlying107 hval
  obtain ⟨fuel, hf⟩ := hd
  rcases DataW.trod_slice Tryz.underlying107 hf with ⟨h0, _⟩ | ⟨a, len, cap, elems, rest, n, _, hcs, _, hb, hl, hm, hlen, hel, _, _⟩
  · have h0' : [Value.slice a0 n0 c0] = [.slice none 0 0] := h0
    cases h0'
    exact ⟨[], (fun _ h => by cases h), [], ⟨none, 0, rfl, rfl, ⟨by decide, Nat.le_refl _⟩, fun h => absurd h (Nat.lt_irrefl _)⟩, trivial, fun _ h => h, rowsSp_two _⟩
  · have hcs' : [Value.slice a0 n0 c0] = [.slice (some a) len cap] := hcs
    cases hcs'
    have hall : ∀ i, i < n0 → ∃ s : Int × Int, W.cell? (a.add (i * 2)) = some (.int .u32 s.1) ∧ W.cell? (a.add (i * 2 + 1)) = some (.int .u32 s.2) ∧ Go.Pc.okS s := by
      intro i hi
      have h := hel i hi
      rw [List.getElem?_eq_getElem (by omega), Option.bind_eq_some_iff] at h
      obtain ⟨cs, hcells, hd⟩ := h
      rw [cells83] at hcells
      obtain ⟨_, hcl, hcell⟩ := World.cells?_some hcells
      obtain ⟨x, y, rfl, wx, wy⟩ := trod_span hd
      have hx := wf_u32 wx
      have hy := wf_u32 wy
      refine ⟨(x, y), ?_, ?_, hx.1, hx.2, hy.1, hy.2⟩
      · have := hcell 0 (by omega)
        rw [Addr.add_add] at this
        exact this
      · have := hcell 1 (by omega)
        rw [Addr.add_add] at this
        exact this
    let f : Fin n0 → Int × Int := fun i => Classical.choose (hall i.val i.isLt)
    have hfs : ∀ i : Fin n0, W.cell? (a.add (i.val * 2)) = some (.int .u32 (f i).1) ∧ W.cell? (a.add (i.val * 2 + 1)) = some (.int .u32 (f i).2) ∧ Go.Pc.okS (f i) := fun i => Classical.choose_spec (hall i.val i.isLt)
    have hln : (List.ofFn f).length = n0 := by simp
    refine ⟨List.ofFn f, fun s hs => ?_, ((List.ofFn f).map encSp).flatten, ⟨some a, c0, by rw [rowsSp_len, hln], by rw [flat_len, rowsSp_len], ⟨by rw [rowsSp_len, hln]; unfold maxLen at hm; omega, by rw [rowsSp_len, hln]; exact hl⟩, fun hpos => ⟨a, rfl, fun _ => ?_, fun j x hj => ?_⟩⟩, cells_sp' _, fun _ h => h, rowsSp_two _⟩
    · rw [List.mem_ofFn] at hs
      obtain ⟨i, rfl⟩ := hs
      exact (hfs i).2.2
    · rw [rowsSp_len, hln] at hpos
      have h := block_lt_of_cell (hfs ⟨0, hpos⟩).1
      rwa [block_add] at h
    · have hjl : j < n0 * 2 := by
        have := (List.getElem?_eq_some_iff.1 hj).1
        rwa [flat_len, hln] at this
      rw [flat_get _ _ (by rw [hln]; exact hjl)] at hj
      have hi : j / 2 < n0 := by omega
      have hg : (List.ofFn f)[j / 2]! = f ⟨j / 2, hi⟩ := by simp [hi]
      rw [hg] at hj
      have h2 := hfs ⟨j / 2, hi⟩
      have h4 : j % 2 = 0 ∨ j % 2 = 1 := by omega
      rcases h4 with h4 | h4
      · rw [h4] at hj
        have hj' : some (Value.int .u32 (f ⟨j / 2, hi⟩).1) = some x := hj
        have ej : j = j / 2 * 2 := by omega
        have h5 := h2.1
        rw [← ej] at h5
        rw [← hj']
        exact h5
      · rw [h4] at hj
        have hj' : some (Value.int .u32 (f ⟨j / 2, hi⟩).2) = some x := hj
        have ej : j = j / 2 * 2 + 1 := by omega
        have h5 := h2.2.1
        rw [← ej] at h5
        rw [← hj']
        exact h5
end
end Go.Proofs.YtgkfbembnlgahaaGreatDoor
