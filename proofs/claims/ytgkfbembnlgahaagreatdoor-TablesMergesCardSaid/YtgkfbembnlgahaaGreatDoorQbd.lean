/- Part 30 of the proof of the statement that the last part names; it asks for no condition of its own. Here: RowS8. -/
import Derived.Test.YtgkfbembnlgahaaGreatDoorQbc
import Derived.Lib.LaidCaseMet
/- The rows of law 07: what is listed beside, and the start that fits. -/
set_option linter.unusedVariables false
set_option maxRecDepth 100000
namespace Go.Proofs.YtgkfbembnlgahaaGreatDoor
open Go Go.Sx Go.Tx Go.ChangeShapes Go.WideShapes Go.ChangeAt Go.WideElems Go.RowKit

abbrev laid8 : List (String × DataW Unit) := [("math/bits.deBruijn32tab", Rows.laid_math_bits_deBruijn32tab), ("math/bits.deBruijn64tab", Rows.laid_math_bits_deBruijn64tab), ("internal/strconv.uint64pow10", Rows.laid_internal_strconv_uint64pow10), ("unicode/utf8.acceptRanges", Rows.laid_unicode_utf8_acceptRanges), ("strconv.ErrRange", Rows.laid_strconv_ErrRange), ("strconv.ErrSyntax", Rows.laid_strconv_ErrSyntax), ("unicode.CaseRanges", Rows.laid_unicode_CaseRanges), ("unicode/utf8.first", Rows.laid_unicode_utf8_first)]

theorem tabs_of8 {W : World} (h : laidMet Tryz.prog laid8 W) : Lib.Utf8Tabs 5 6 W := by
  have h1 := Lib.laidMet.reads h (n := "unicode/utf8.first") (d := Rows.laid_unicode_utf8_first) (.tail _ (.tail _ (.tail _ (.tail _ (.tail _ (.tail _ (.tail _ (.head _))))))))
  have h2 := Lib.laidMet.reads h (n := "unicode/utf8.acceptRanges") (d := Rows.laid_unicode_utf8_acceptRanges) (.tail _ (.tail _ (.tail _ (.head _))))
  rw [accept_eq] at h2
  unfold Rows.laid_unicode_utf8_first at h1
  rw [Pinned.utf8First_eq] at h1
  exact utf8Tabs_of_reads Tryz.lays260 u8x h1 h2

/-- The start: what the door's run leaves, and Go's own two tables beside it. -/
noncomputable def startW8 (os : Os) : World :=
  let w0 := startW os
  { w0 with heap := (w0.heap.modify 3 fun
    | .cells _ t frozen => .cells #[.slice (some ⟨w0.heap.size, 0, none⟩) Lib.caseA.size Lib.caseA.size] t frozen
    | o => o).push (.cells Lib.caseCells5 347 (0, 0)) }

theorem laid_swap {P : Program} {w : World} {a b : String × DataW Unit} : ∀ {l : List (String × DataW Unit)} {ps : List MemPlace}, DataW.LaidVars P w (l ++ [a, b]) ps → ∃ ps', DataW.LaidVars P w (l ++ [b, a]) ps' ∧ ps.Perm ps'
  | [], ps, h => by
    obtain ⟨g, t, cs, fu, p, q, hg, ht, hv, hd, ⟨g', t', cs', fu', p', q', hg', ht', hv', hd', hn, rfl⟩, rfl⟩ := h
    have hn' : q' = [] := hn
    subst hn'
    refine ⟨_, ⟨g', t', cs', fu', p', _, hg', ht', hv', hd', ⟨g, t, cs, fu, p, [], hg, ht, hv, hd, rfl, rfl⟩, rfl⟩, ?_⟩
    simp only [List.append_nil]
    exact List.perm_append_comm
  | x :: l, ps, h => by
    obtain ⟨g, t, cs, fu, p, q, hg, ht, hv, hd, hl, rfl⟩ := h
    obtain ⟨q', h1, h2⟩ := laid_swap hl
    exact ⟨_, ⟨g, t, cs, fu, p, q', hg, ht, hv, hd, h1, rfl⟩, List.Perm.append_left _ h2⟩
theorem laidMet_swap {P : Program} {w : World} {l : List (String × DataW Unit)} {a b : String × DataW Unit} (h : laidMet P (l ++ [a, b]) w) : laidMet P (l ++ [b, a]) w := by
  obtain ⟨ps, h1, h2, h3⟩ := h
  obtain ⟨ps', h4, h5⟩ := laid_swap h1
  exact ⟨ps', h4, (h5.nodup_iff).1 h2, fun b off hp => h3 b off (h5.mem_iff.2 hp)⟩

/-! The table of unicode.ToUpper at this dump (the kit's laying, with the variable's number). -/
def caseRen : Go.Shelf.Ren := ⟨fun | 274 => 272 | n => n, fun | 21 => 21 | 162 => 325 | 160 => 340 | 3 => 3 | 4 => 4 | 46 => 245 | 0 => 0 | 208 => 347 | 51 => 22 | 206 => 345 | n => n, fun | 13 => 3 | n => n⟩
theorem caseLays : Go.Proofs.Lays.n274 Tryz.prog caseRen := {
  mixed := by kernel_rfl
  f274 := Tryz.func272.trans (congrArg some (by kernel_rfl))
  t0 := Tryz.underlying0
  a0 := Tryz.isAgg0
  z0 := Tryz.sizeOf0
  v0 := Tryz.zeroValue0
  t3 := Tryz.underlying3
  a3 := Tryz.isAgg3
  z3 := Tryz.sizeOf3
  v3 := Tryz.zeroValue3
  t4 := Tryz.underlying4
  a4 := Tryz.isAgg4
  z4 := Tryz.sizeOf4
  v4 := Tryz.zeroValue4
  t21 := Tryz.underlying21
  a21 := Tryz.isAgg21
  z21 := Tryz.sizeOf21
  v21 := Tryz.zeroValue21
  t46 := Tryz.underlying245
  a46 := Tryz.isAgg245
  z46 := Tryz.sizeOf245
  v46 := Tryz.zeroValue245
  t51 := Tryz.underlying22
  a51 := Tryz.isAgg22
  z51 := Tryz.sizeOf22
  v51 := Tryz.zeroValue22
  t160 := Tryz.underlying340
  a160 := Tryz.isAgg340
  z160 := Tryz.sizeOf340
  v160 := Tryz.zeroValue340
  t162 := Tryz.underlying325
  a162 := Tryz.isAgg325
  z162 := Tryz.sizeOf325
  v162 := Tryz.zeroValue325
  t208 := Tryz.underlying347
  a208 := Tryz.isAgg347
  z208 := Tryz.sizeOf347
  v208 := Tryz.zeroValue347 }
theorem cx : CaseExtra Tryz.prog caseRen := ⟨by kernel_rfl, by kernel_rfl, by kernel_rfl, by kernel_rfl, by kernel_rfl, by kernel_rfl⟩
theorem start_case (os : Os) (args : Array Value) : laidMet Tryz.prog (laid7 ++ [("unicode.CaseRanges", Lib.caseData)]) ((startW8 os).forCall (fun _ _ => 0) ⟨#[], args, []⟩).memory :=
  laidMet_with_case caseLays (by kernel_rfl) cx 8 (by kernel_rfl) (by kernel_rfl) (by kernel_rfl) (startW os).heap.size 347 (of_decide_eq_true (by kernel_rfl)) (by kernel_rfl) (by kernel_rfl) (by kernel_rfl)
theorem start_met8 (os : Os) (args : Array Value) : laidMetH Tryz.prog laid8 ((startW8 os).forCall (fun _ _ => 0) ⟨#[], args, []⟩).memory := by
  rw [MakeChecks.laidMetH_plain _ _ _ (by kernel_rfl)]
  have h := laidMet_swap (l := laid7.take 6) (a := ("unicode/utf8.first", Rows.laid_unicode_utf8_first)) (b := ("unicode.CaseRanges", Lib.caseData)) (start_case os args)
  unfold Rows.laid_unicode_utf8_first at h
  have e : (Rows.laid_unicode_CaseRanges : DataW Unit) = Lib.caseData := Pinned.caseRanges_eq
  unfold laid8
  rw [e]
  exact h
theorem start_shaped8 (os : Os) (args : Array Value) : ((startW8 os).forCall (fun _ _ => 0) ⟨#[], args, []⟩).Shaped Tryz.checked.prog := World.shaped_of_RefB (by kernel_rfl) (by kernel_rfl)
end Go.Proofs.YtgkfbembnlgahaaGreatDoor
