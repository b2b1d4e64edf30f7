/- Part 15 of the proof of the statement that the last part names; it asks for no condition of its own. Here: RowS8. -/
import Derived.Test.YtgkfbembnlgahaaDoorQan
import Derived.Lib.LaidCaseMet
set_option linter.unusedVariables false
set_option maxRecDepth 100000
namespace Go.Proofs.YtgkfbembnlgahaaDoor
open Go Go.Sx Go.Tx Go.ChangeShapes Go.WideShapes Go.ChangeAt Go.WideElems Go.RowKit
abbrev laid8 : List (String × DataW Unit) := [("math/bits.deBruijn32tab", Rows.laid_math_bits_deBruijn32tab), ("math/bits.deBruijn64tab", Rows.laid_math_bits_deBruijn64tab), ("internal/strconv.uint64pow10", Rows.laid_internal_strconv_uint64pow10), ("unicode/utf8.acceptRanges", Rows.laid_unicode_utf8_acceptRanges), ("strconv.ErrRange", Rows.laid_strconv_ErrRange), ("strconv.ErrSyntax", Rows.laid_strconv_ErrSyntax), ("unicode.CaseRanges", Rows.laid_unicode_CaseRanges), ("unicode/utf8.first", Rows.laid_unicode_utf8_first)]

theorem tabs_of8 {W : World} (h : laidMet Tryd.prog laid8 W) : Lib.Utf8Tabs 5 6 W := by
  have h1 := Lib.laidMet.reads h (n := "unicode/utf8.first") (d := Rows.laid_unicode_utf8_first) (.tail _ (.tail _ (.tail _ (.tail _ (.tail _ (.tail _ (.tail _ (.head _))))))))
  have h2 := Lib.laidMet.reads h (n := "unicode/utf8.acceptRanges") (d := Rows.laid_unicode_utf8_acceptRanges) (.tail _ (.tail _ (.tail _ (.head _))))
  rw [accept_eq] at h2
  unfold Rows.laid_unicode_utf8_first at h1
  rw [Pinned.utf8First_eq] at h1
  exact utf8Tabs_of_reads Tryd.lays260 u8x h1 h2

noncomputable def startW8 (os : Os) : World :=
  let w0 := startW os
  { w0 with heap := (w0.heap.modify 0 fun
    | .cells _ t frozen => .cells #[.slice (some ⟨w0.heap.size, 0, none⟩) Lib.caseA.size Lib.caseA.size] t frozen
    | o => o).push (.cells Lib.caseCells5 146 (0, 0)) }

theorem laid_swap {P : Program} {w : World} {a b : String × DataW Unit} : ∀ {l : List (String × DataW Unit)} {ps : List MemPlace}, DataW.LaidVars P w (l ++ [a, b]) ps → ∃ ps', DataW.LaidVars P w (l ++ [b, a]) ps' ∧ ps.Perm ps'
  | [], ps, h => by
    obtain ⟨g, t, cs, fu, p, q, hg, ht, hv, hd, ⟨g', t', cs', fu', p', q', hg', ht', hv', hd', hn, rfl⟩, rfl⟩ := h
    have hn' : q' = [] := hn
    subst hn'
    refine ⟨_, ⟨g', t', cs', fu', p', _, hg', ht', hv', hd', ⟨g, t, cs, fu, p, [], hg, ht, hv, hd, rfl, rfl⟩, rfl⟩, ?_⟩
    simp only [List.append_nil]
    exact List.perm_append_comm
  | x :: l, ps, h => by
    obtain ⟨g, t, cs, fu, p, q, hg, ht, hv, hd, hl, rfl⟩ := h
    obtain ⟨q', h1, h2⟩ := laid_swap hl
    exact ⟨_, ⟨g, t, cs, fu, p, q', hg, ht, hv, hd, h1, rfl⟩, List.Perm.append_left _ h2⟩
theorem laidMet_swap {P : Program} {w : World} {l : List (String × DataW Unit)} {a b : String × DataW Unit} (h : laidMet P (l ++ [a, b]) w) : laidMet P (l ++ [b, a]) w := by
  obtain ⟨ps, h1, h2, h3⟩ := h
  obtain ⟨ps', h4, h5⟩ := laid_swap h1
  exact ⟨ps', h4, (h5.nodup_iff).1 h2, fun b off hp => h3 b off (h5.mem_iff.2 hp)⟩

def caseRen : Go.Shelf.Ren := ⟨fun | 274 => 84 | n => n, fun | 21 => 21 | 162 => 115 | 160 => 134 | 3 => 3 | 4 => 4 | 46 => 72 | 0 => 0 | 208 => 146 | 51 => 25 | 206 => 144 | n => n, fun | 13 => 0 | n => n⟩
theorem caseLays : Go.Proofs.Lays.n274 Tryd.prog caseRen := {
  mixed := by kernel_rfl
  f274 := Tryd.func84.trans (congrArg some (by kernel_rfl))
  t0 := Tryd.underlying0
  a0 := Tryd.isAgg0
  z0 := Tryd.sizeOf0
  v0 := Tryd.zeroValue0
  t3 := Tryd.underlying3
  a3 := Tryd.isAgg3
  z3 := Tryd.sizeOf3
  v3 := Tryd.zeroValue3
  t4 := Tryd.underlying4
  a4 := Tryd.isAgg4
  z4 := Tryd.sizeOf4
  v4 := Tryd.zeroValue4
  t21 := Tryd.underlying21
  a21 := Tryd.isAgg21
  z21 := Tryd.sizeOf21
  v21 := Tryd.zeroValue21
  t46 := Tryd.underlying72
  a46 := Tryd.isAgg72
  z46 := Tryd.sizeOf72
  v46 := Tryd.zeroValue72
  t51 := Tryd.underlying25
  a51 := Tryd.isAgg25
  z51 := Tryd.sizeOf25
  v51 := Tryd.zeroValue25
  t160 := Tryd.underlying134
  a160 := Tryd.isAgg134
  z160 := Tryd.sizeOf134
  v160 := Tryd.zeroValue134
  t162 := Tryd.underlying115
  a162 := Tryd.isAgg115
  z162 := Tryd.sizeOf115
  v162 := Tryd.zeroValue115
  t208 := Tryd.underlying146
  a208 := Tryd.isAgg146
  z208 := Tryd.sizeOf146
  v208 := Tryd.zeroValue146 }
theorem cx : CaseExtra Tryd.prog caseRen := ⟨by kernel_rfl, by kernel_rfl, by kernel_rfl, by kernel_rfl, by kernel_rfl, by kernel_rfl⟩
theorem start_case (os : Os) (args : Array Value) : laidMet Tryd.prog (laid7 ++ [("unicode.CaseRanges", Lib.caseData)]) ((startW8 os).forCall (fun _ _ => 0) ⟨#[], args, []⟩).memory :=
  laidMet_with_case caseLays (by kernel_rfl) cx 8 (by kernel_rfl) (by kernel_rfl) (by kernel_rfl) (startW os).heap.size 146 (of_decide_eq_true (by kernel_rfl)) (by kernel_rfl) (by kernel_rfl) (by kernel_rfl)
theorem start_met8 (os : Os) (args : Array Value) : laidMetH Tryd.prog laid8 ((startW8 os).forCall (fun _ _ => 0) ⟨#[], args, []⟩).memory := by
  rw [MakeChecks.laidMetH_plain _ _ _ (by kernel_rfl)]
  have h := laidMet_swap (l := laid7.take 6) (a := ("unicode/utf8.first", Rows.laid_unicode_utf8_first)) (b := ("unicode.CaseRanges", Lib.caseData)) (start_case os args)
  unfold Rows.laid_unicode_utf8_first at h
  have e : (Rows.laid_unicode_CaseRanges : DataW Unit) = Lib.caseData := Pinned.caseRanges_eq
  unfold laid8
  rw [e]
  exact h
theorem start_shaped8 (os : Os) (args : Array Value) : ((startW8 os).forCall (fun _ _ => 0) ⟨#[], args, []⟩).Shaped Tryd.checked.prog := World.shaped_of_RefB (by kernel_rfl) (by kernel_rfl)
end Go.Proofs.YtgkfbembnlgahaaDoor
