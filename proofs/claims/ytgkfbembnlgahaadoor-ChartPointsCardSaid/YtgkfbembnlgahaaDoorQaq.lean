/- Part 17 of the proof of the statement that the last part names; it asks for no condition of its own. Here: RowU. -/
import Derived.Test.YtgkfbembnlgahaaDoorQao
import Derived.Test.YtgkfbembnlgahaaDoorQap
import Derived.Test.YtgkfbembnlgahaaDoorQal
import Derived.ChangeSlices
import Derived.DataElems
import Derived.ChangeOld
import Derived.Carry
set_option linter.unusedVariables false
set_option maxRecDepth 100000
namespace Go.Proofs.YtgkfbembnlgahaaDoor
open Go Go.Sx Go.Tx Go.ChangeShapes Go.WideShapes Go.ChangeAt Go.WideElems Go.RowKit
theorem wf_u32 {n : Int} (h : (Lit.int .u32 n).wf = true) : Go.Pc.okU n := by
  have h' : (decide (IntKind.u32.min ≤ n) && decide (n ≤ IntKind.u32.max)) = true := h
  rw [Bool.and_eq_true, decide_eq_true_eq, decide_eq_true_eq] at h'
  have e1 : IntKind.u32.min = 0 := by decide
  have e2 : IntKind.u32.max = 4294967295 := by decide
  rw [e1, e2] at h'
  exact h'
def rowsU (l : List Int) : List (List Cell) := l.map fun x => [.v (.int .u32 x)]
theorem cells_u {RO : Nat → Prop} {w : World} : ∀ (l : List Int), CellsAre RO w (rowsU l).flatten (l.map (Value.int .u32))
  | [] => trivial
  | x :: l => ⟨⟨rfl, rfl⟩, cells_u l⟩
theorem rowsU_len (l : List Int) : (rowsU l).length = l.length := List.length_map _
theorem rowsU_one (l : List Int) : ∀ r ∈ rowsU l, r.length = 1 := fun r hr => by
  obtain ⟨x, _, rfl⟩ := List.mem_map.1 hr
  rfl
section
variable {H : Type} {enc : TypeId × Value → H} {W : World} {base : Nat} {sp : Nat → Bool} {held : Bool}
theorem cellsU : Tryd.prog.cellsOf 25 = 1 := by kernel_rfl
theorem open_words {b0 : Nat} {r : Reach} {v : Value} {d : DataW H} {ps : List MemPlace} {ρ : Rho} (hval : Value.okWide Tryd.prog W r b0 22 v) (hd : DataW.Trod enc Tryd.prog W 0 sp held 22 v d ps) :
    ∃ l : List Int, (∀ n ∈ l, Go.Pc.okU n) ∧ holds ρ v (fun _ => False) (fun k => k < W.heap.size) W (.row false 25 1 (rowsU l)) := by
  obtain ⟨a0, n0, c0, rfl⟩ := okWide_slice Tryd.underlying22 hval
  obtain ⟨fuel, hf⟩ := hd
  rcases DataW.trod_slice Tryd.underlying22 hf with ⟨h0, _⟩ | ⟨a, len, cap, elems, rest, n, _, hcs, _, hb, hl, hm, hlen, hel, _, _⟩
  · have h0' : [Value.slice a0 n0 c0] = [.slice none 0 0] := h0
    cases h0'
    exact ⟨[], (fun _ h => by cases h), [], ⟨none, 0, rfl, rfl, ⟨by decide, Nat.le_refl _⟩, fun h => absurd h (Nat.lt_irrefl _)⟩, trivial, fun _ h => h, rowsU_one _⟩
  · have hcs' : [Value.slice a0 n0 c0] = [.slice (some a) len cap] := hcs
    cases hcs'
    have hall : ∀ i, i < n0 → ∃ s : Int, W.cell? (a.add i) = some (.int .u32 s) ∧ Go.Pc.okU s := by
      intro i hi
      have h := hel i hi
      rw [List.getElem?_eq_getElem (by omega), Option.bind_eq_some_iff] at h
      obtain ⟨cs, hcells, hd⟩ := h
      rw [cellsU] at hcells
      obtain ⟨_, hcl, hcell⟩ := World.cells?_some hcells
      obtain ⟨s, rfl, _, ws⟩ := DataW.trod_int Tryd.underlying25 hd
      have := hcell 0 (by omega)
      rw [Addr.add_add, Nat.mul_one, Nat.add_zero] at this
      exact ⟨s, this, wf_u32 ws⟩
    let f : Fin n0 → Int := fun i => Classical.choose (hall i.val i.isLt)
    have hfs : ∀ i : Fin n0, W.cell? (a.add i.val) = some (.int .u32 (f i)) ∧ Go.Pc.okU (f i) := fun i => Classical.choose_spec (hall i.val i.isLt)
    have hln : (List.ofFn f).length = n0 := by simp
    refine ⟨List.ofFn f, fun s hs => ?_, (List.ofFn f).map (Value.int .u32), ⟨some a, c0, by rw [rowsU_len, hln], by rw [List.length_map, rowsU_len, Nat.mul_one], ⟨by rw [rowsU_len, hln]; unfold maxLen at hm; omega, by rw [rowsU_len, hln]; exact hl⟩, fun hpos => ⟨a, rfl, fun _ => ?_, fun j x hj => ?_⟩⟩, cells_u _, fun _ h => h, rowsU_one _⟩
    · rw [List.mem_ofFn] at hs
      obtain ⟨i, rfl⟩ := hs
      exact (hfs i).2
    · rw [rowsU_len, hln] at hpos
      have h := block_lt_of_cell (hfs ⟨0, hpos⟩).1
      rwa [block_add] at h
    · have hjl : j < n0 := by
        have := (List.getElem?_eq_some_iff.1 hj).1
        rwa [List.length_map, hln] at this
      rw [List.getElem?_map, List.getElem?_eq_getElem (by rw [hln]; exact hjl)] at hj
      have h2 := (hfs ⟨j, hjl⟩).1
      have e : (List.ofFn f)[j]'(by rw [hln]; exact hjl) = f ⟨j, hjl⟩ := by simp
      rw [e] at hj
      have hj' : some (Value.int .u32 (f ⟨j, hjl⟩)) = some x := hj
      rw [← hj']
      exact h2
end
end Go.Proofs.YtgkfbembnlgahaaDoor
