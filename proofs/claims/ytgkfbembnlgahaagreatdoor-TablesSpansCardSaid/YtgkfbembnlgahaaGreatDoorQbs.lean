/- Part 45 of the proof of the statement that the last part names; it asks for no condition of its own. Here: RowSt. -/
import Derived.Test.YtgkfbembnlgahaaGreatDoorQbq
import Derived.Test.YtgkfbembnlgahaaGreatDoorQbr
import Derived.ChangeSlices
import Derived.DataElems
import Derived.ChangeOld
import Derived.Carry
set_option linter.unusedVariables false
set_option maxRecDepth 100000
namespace Go.Proofs.YtgkfbembnlgahaaGreatDoor
open Go Go.Sx Go.Tx Go.ChangeShapes Go.WideShapes Go.ChangeAt Go.WideElems Go.RowKit
def rowsSt (l : List ByteArray) : List (List Cell) := l.map fun x => [.v (.string x)]
theorem cells_st {RO : Nat → Prop} {w : World} : ∀ (l : List ByteArray), CellsAre RO w (rowsSt l).flatten (l.map Value.string)
  | [] => trivial
  | x :: l => ⟨⟨rfl, rfl⟩, cells_st l⟩
theorem rowsSt_len (l : List ByteArray) : (rowsSt l).length = l.length := List.length_map _
theorem rowsSt_one (l : List ByteArray) : ∀ r ∈ rowsSt l, r.length = 1 := fun r hr => by
  obtain ⟨x, _, rfl⟩ := List.mem_map.1 hr
  rfl
section
variable {H : Type} {enc : TypeId × Value → H} {W : World} {base : Nat} {sp : Nat → Bool} {held : Bool}
theorem cells9 : Tryz.prog.cellsOf 9 = 1 := by kernel_rfl
theorem open_texts {b0 : Nat} {r : Reach} {v : Value} {d : DataW H} {ps : List MemPlace} {ρ : Rho} (hval : Value.okWide Tryz.prog W r b0 113 v) (hd : DataW.Trod enc Tryz.prog W 0 sp held 113 v d ps) :
    ∃ l : List ByteArray, holds ρ v (fun _ => False) (fun k => k < W.heap.size) W (.row false 9 1 (rowsSt l)) := by
  obtain ⟨a0, n0, c0, rfl⟩ := okWide_slice Tryz.underlying113 hval
  obtain ⟨fuel, hf⟩ := hd
  rcases DataW.trod_slice Tryz.underlying113 hf with ⟨h0, _⟩ | ⟨a, len, cap, elems, rest, n, _, hcs, _, hb, hl, hm, hlen, hel, _, _⟩
  · have h0' : [Value.slice a0 n0 c0] = [.slice none 0 0] := h0
    cases h0'
    exact ⟨[], [], ⟨none, 0, rfl, rfl, ⟨by decide, Nat.le_refl _⟩, fun h => absurd h (Nat.lt_irrefl _)⟩, trivial, fun _ h => h, rowsSt_one _⟩
  · have hcs' : [Value.slice a0 n0 c0] = [.slice (some a) len cap] := hcs
    cases hcs'
    have hall : ∀ i, i < n0 → ∃ s : ByteArray, W.cell? (a.add i) = some (.string s) := by
      intro i hi
      have h := hel i hi
      rw [List.getElem?_eq_getElem (by omega), Option.bind_eq_some_iff] at h
      obtain ⟨cs, hcells, hd⟩ := h
      rw [cells9] at hcells
      obtain ⟨_, hcl, hcell⟩ := World.cells?_some hcells
      obtain ⟨s, rfl, _, _⟩ := DataW.trod_string Tryz.underlying9 hd
      have := hcell 0 (by omega)
      rw [Addr.add_add, Nat.mul_one, Nat.add_zero] at this
      exact ⟨s, this⟩
    let f : Fin n0 → ByteArray := fun i => Classical.choose (hall i.val i.isLt)
    have hfs : ∀ i : Fin n0, W.cell? (a.add i.val) = some (.string (f i)) := fun i => Classical.choose_spec (hall i.val i.isLt)
    have hln : (List.ofFn f).length = n0 := by simp
    refine ⟨List.ofFn f, (List.ofFn f).map Value.string, ⟨some a, c0, by rw [rowsSt_len, hln], by rw [List.length_map, rowsSt_len, Nat.mul_one], ⟨by rw [rowsSt_len, hln]; unfold maxLen at hm; omega, by rw [rowsSt_len, hln]; exact hl⟩, fun hpos => ⟨a, rfl, fun _ => ?_, fun j x hj => ?_⟩⟩, cells_st _, fun _ h => h, rowsSt_one _⟩
    · rw [rowsSt_len, hln] at hpos
      have h := block_lt_of_cell (hfs ⟨0, hpos⟩)
      rwa [block_add] at h
    · have hjl : j < n0 := by
        have := (List.getElem?_eq_some_iff.1 hj).1
        rwa [List.length_map, hln] at this
      rw [List.getElem?_map, List.getElem?_eq_getElem (by rw [hln]; exact hjl)] at hj
      have h2 := hfs ⟨j, hjl⟩
      have e : (List.ofFn f)[j]'(by rw [hln]; exact hjl) = f ⟨j, hjl⟩ := by simp
      rw [e] at hj
      have hj' : some (Value.string (f ⟨j, hjl⟩)) = some x := hj
      rw [← hj']
      exact h2
end
end Go.Proofs.YtgkfbembnlgahaaGreatDoor
