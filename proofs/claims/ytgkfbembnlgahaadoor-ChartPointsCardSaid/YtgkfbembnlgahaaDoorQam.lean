/- Part 13 of the proof of the statement that the last part names; it asks for no condition of its own. Here: Row. -/
import Derived.Test.YtgkfbembnlgahaaDoorRows
import Derived.Test.YtgkfbembnlgahaaDoorQal
import Derived.ProofKit
import Derived.LaidMore
import Derived.OpenShut
import Derived.Lib.LaidU8
import Derived.PinnedBridge
import Derived.HandedShaped
set_option linter.unusedVariables false
set_option maxRecDepth 100000
namespace Go.Proofs.YtgkfbembnlgahaaDoor
open Go Go.Sx Go.Tx Go.ChangeShapes Go.WideShapes Go.ChangeAt Go.WideElems Go.RowKit
theorem own : ownKnob Tryd.prog.godebug = none := by kernel_rfl

theorem returns_laid {H : Type} {enc : TypeId × Value → H} {a : Assume} {C : Checked} {os : Os} {f : FuncId} {fn : Func} {s : ChangeSpec} {conds : List PathCond} {apart fresh handsOn again : Bool} {X : World → Array Value → Prop}
    (hX : ∀ (w w' : World) (args : Array Value), w.heap = w'.heap → X w args → X w' args)
    (own : ownKnob C.prog.godebug = none) (started : os.Started) (noInit : C.prog.inits.idxOf? f = none) (hfn : C.prog.funcs[f]? = some fn)
    (witness : ∃ (w : World) (tape : Tape) (i : Input), w.os = os ∧ (w.forCall tape i).Shaped C.prog ∧ i.vars = [] ∧ Input.okWide C.prog (w.forCall tape i) .any w.heap.size f i ∧
      ((s.pre enc C.prog fn conds apart (w.forCall tape i).memory i.args ∧ X (w.forCall tape i).memory i.args) ∧ sizedMet enc C.prog fn (OpenSpec.ofChange s) apart (w.forCall tape i).memory i.args) ∧ a.holds C.prog (lone (Frame.enter C.prog f i.args .normal) [] (w.forCall tape i)))
    (contract : ∀ (W : World) (base : Nat) (args : Array Value) (ds gs : List (DataW H)) (before : List MemPlace),
      (∀ (j : Nat) t v, fn.params[j]? = some t → args[j]? = some v → Value.okWide C.prog W .any base t v) →
      DataW.Whole enc C.prog fn.params.toList s.vars apart W args.toList ds gs before → X W args → W.ShapedOpen C.prog →
      Calls C.prog f args W fun e W' => ∃ v, e = .returned v ∧ s.post enc C.prog fn apart fresh handsOn again W args v W') :
    ReturnsInHanded a C os f .any (fun w args => (s.pre enc C.prog fn conds apart w args ∧ X w args) ∧ sizedMet enc C.prog fn (OpenSpec.ofChange s) apart w args) (s.post enc C.prog fn apart fresh handsOn again) := by
  refine returnsInHanded_of_calls own started noInit witness ?_
  intro w tape i _ hsh _ hok hpre hholds
  obtain ⟨_, _, _, fn', hfn', _, _, _, _, hval⟩ := hok
  have e : fn' = fn := Option.some.inj (hfn'.symm.trans hfn)
  subst e
  obtain ⟨⟨⟨ds, gs, before, hw, hc⟩, hx⟩, hz⟩ := hpre
  have hw' := DataW.Whole.of_heap (w' := w.forCall tape i) (by rfl) hw
  refine (contract (w.forCall tape i) w.heap.size i.args ds gs before hval hw' (hX _ _ _ (by rfl) hx) hsh).mono fun e W' ⟨v, he, hp⟩ => ?_
  subst he
  exact ChangeSpec.post_blind hp

abbrev laid7 : List (String × DataW Unit) := [("math/bits.deBruijn32tab", Rows.laid_math_bits_deBruijn32tab), ("math/bits.deBruijn64tab", Rows.laid_math_bits_deBruijn64tab), ("internal/strconv.uint64pow10", Rows.laid_internal_strconv_uint64pow10), ("unicode/utf8.acceptRanges", Rows.laid_unicode_utf8_acceptRanges), ("strconv.ErrRange", Rows.laid_strconv_ErrRange), ("strconv.ErrSyntax", Rows.laid_strconv_ErrSyntax), ("unicode/utf8.first", Rows.laid_unicode_utf8_first)]

theorem accept_eq : (Rows.laid_unicode_utf8_acceptRanges : DataW Unit) = Lib.acceptData := by kernel_rfl
theorem u8x : U8Extra Tryd.prog Tryd.lays260_ren := ⟨by kernel_rfl, by kernel_rfl, by kernel_rfl, by kernel_rfl, by kernel_rfl, by kernel_rfl, by kernel_rfl⟩
def glOf (W : World) : Glob := fun g => if g = 4 ∨ g = 5 ∨ g = 6 ∨ g = 8 then W.heap[g]? else none
theorem glOf_w (W : World) : GLw (glOf W) W := by
  intro g o h
  unfold glOf at h
  split at h
  · exact h
  · cases h
theorem cell_of_glOf {W w : World} (h : GLw (glOf W) w) {g : Nat} (hg : g = 4 ∨ g = 5 ∨ g = 6 ∨ g = 8) {i : Nat} {v : Value} (hv : W.cell? ⟨g, i, none⟩ = some v) : w.cell? ⟨g, i, none⟩ = some v := by
  cases ho : W.heap[g]? with
  | none => simp [World.cell?, ho] at hv
  | some o =>
    have h1 := h g o (by unfold glOf; rw [if_pos hg]; exact ho)
    simp only [World.cell?, ho] at hv
    simp only [World.cell?, h1]
    exact hv
theorem db64_eq : (Rows.laid_math_bits_deBruijn64tab : DataW Unit) = Lib.tabData .u8 (Lib.deBruijn64tab.map fun (n : Nat) => (n : Int)) := by kernel_rfl
theorem db_named : Tryd.prog.globalNamed "math/bits.deBruijn64tab" = some 8 := by kernel_rfl
theorem db_type : (Tryd.prog.globals[8]?).map (·.type) = some 148 := by kernel_rfl
theorem db_c5 : Tryd.prog.cellsOf 5 = 1 := by kernel_rfl
theorem db_c349 : Tryd.prog.cellsOf 148 = 64 := by kernel_rfl
theorem db_of {W : World} {l : List (String × DataW Unit)} (h : laidMet Tryd.prog l W) (hm : ("math/bits.deBruijn64tab", Rows.laid_math_bits_deBruijn64tab) ∈ l) : TabAt 8 Lib.deBruijn64tab W := by
  obtain ⟨g, t, cs, fuel, p, hg, hty, hvar, hd⟩ := Lib.laidMet.reads h hm
  obtain rfl := Option.some.inj (db_named.symm.trans hg)
  obtain rfl := Option.some.inj (db_type.symm.trans hty)
  rw [db64_eq] at hd
  have hcs := Lib.cells_of_tab Tryd.underlying148 Tryd.underlying5 db_c5 db_c349 hd
  intro j hj
  have := World.var?_cell hg hvar j
  rw [this, ← Array.getElem?_toList, hcs]
  simp [List.getElem?_eq_getElem hj]
theorem gs_of {W : World} {m : Int} (hU : Lib.Utf8Tabs 5 6 W) (hm : W.cell? ⟨4, 0, none⟩ = some (.int .i64 m)) (hT : TabAt 8 Lib.deBruijn64tab W) : Gs (glOf W) where
  utf8 := fun w hw => ⟨fun c hc => cell_of_glOf hw (by decide) (hU.1 c hc), fun i hi => ⟨cell_of_glOf hw (by decide) (hU.2 i hi).1, cell_of_glOf hw (by decide) (hU.2 i hi).2⟩⟩
  maxlen := ⟨m, fun w hw => cell_of_glOf hw (by decide) hm⟩
  db64 := fun w hw j hj => cell_of_glOf hw (by decide) (hT j hj)
  ne := fun hs => by
    have h2 : W.heap[4]? = none := hs 4
    simp [World.cell?, h2] at hm
end Go.Proofs.YtgkfbembnlgahaaDoor
