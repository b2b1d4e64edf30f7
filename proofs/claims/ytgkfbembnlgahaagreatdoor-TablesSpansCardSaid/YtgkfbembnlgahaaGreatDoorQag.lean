/- Part 7 of the proof of the statement that the last part names; it asks for no condition of its own. Here: TxLib, TxLib2, TxLib3, TxLib4, TxRun. -/
import Derived.Test.YtgkfbembnlgahaaGreatDoorQae
import Derived.Test.YtgkfbembnlgahaaGreatDoorQaf
import Derived.Below
import Derived.Lib.SplitLaws
import Derived.Shelf.Spec.TrailingZeros
set_option linter.unusedVariables false
set_option linter.unusedSimpArgs false
set_option maxRecDepth 100000
namespace Go.Sx
open Go.RowKit
def GLw (gl : Glob) (w : World) : Prop := ∀ g o, gl g = some o → w.heap[g]? = some o
theorem adv_below {w w' : World} (h : Below w.heap.size w w') : Adv (fun k => k < w.heap.size) w w' := ⟨h.os, h.tape, h.output, h.size, fun k hk => h.block k hk⟩

def sArg : SigV → Value
  | ⟨.b k, x⟩ => k.enc x
  | _ => undef
def simpleP (P : Pat) : Bool := P.heap.isEmpty && P.slots.all (fun p => match p.2 with
  | .v => true
  | _ => false)
theorem args_simple {m : NMap} : ∀ (l : List (Nat × SP)) (args : List SVal) (i : Nat) (vs : List SigV), (l.all (fun p => match p.2 with
    | .v => true
    | _ => false)) = true → matchArgs i l args m = some vs → args = (vs.map sArg).map .v
  | [], [], i, vs, _, h => by simp only [matchArgs] at h; cases h; rfl
  | [], _ :: _, i, vs, _, h => by simp [matchArgs] at h
  | _ :: _, [], i, vs, _, h => by simp [matchArgs] at h
  | (t, p) :: l, x :: r, i, vs, hl, h => by
    simp only [List.all_cons, Bool.and_eq_true] at hl
    simp only [matchArgs] at h
    split at h
    · split at h
      · rename_i a b ha hb
        cases h
        have ih := args_simple l r _ b hl.2 hb
        cases p with
        | v =>
          cases x with
          | v y =>
            simp only [matchS] at ha
            split at ha
            · rename_i s hs
              cases ha
              obtain ⟨k, t', rfl, ht⟩ := sig_enc hs
              rw [ih]
              simp only [List.cons_append, List.nil_append, List.map_cons, sArg, ht]
            · cases ha
          | _ => simp [matchS] at ha
        | _ => simp at hl
      · cases h
    · cases h
theorem unCall_simple {P : Pat} (hP : simpleP P = true) {args : List SVal} {ents : List TEnt} {v : Vars P.vars} (h : unCall P args ents = some v) : ents = [] ∧ args = ((Tup.toL P.vars v).map sArg).map .v := by
  unfold simpleP at hP
  simp only [Bool.and_eq_true, List.isEmpty_iff] at hP
  unfold unCall at h
  split at h
  · rename_i a b ha hb
    rw [Tup.toL_ofL _ _ _ h]
    rw [hP.1] at hb
    cases ents with
    | nil =>
      simp only [matchEnts] at hb
      cases hb
      rw [List.append_nil]
      exact ⟨rfl, args_simple _ _ _ _ hP.2 ha⟩
    | cons e r => simp [matchEnts] at hb
  · cases h

section
variable {P : Program} {gl : Glob} {f : FuncId}
theorem adv_frame' {Fr RO : Nat → Prop} {ρ : Rho} {own : Foot} {hp : HpF} {w w' : World} (H : HRel Fr RO ρ own hp w) (h : Adv (fun k => k < w.heap.size) w w') : Adv (fun k => RO k ∨ Fr k) w w' :=
  h.mono (fun k hk => by
    rcases hk with hk | hk
    · exact (H.rofr k hk).2
    · exact H.fr k hk)

theorem validS_none {S : TSum} (h : ∀ v, S.F v = none) : ValidS P gl f S := fun args ents v o hu hF => by rw [h v] at hF; cases hF
theorem validS_pure {S : TSum} (hs : ¬ Str gl) (hP : simpleP S.pat = true) (h : ∀ v o, S.F v = some o → (S.res o).2 = [] ∧ ∃ val, (∀ ρ, D ρ (S.res o).1 val) ∧ ∀ w, GLw gl w → Calls P f ((Tup.toL S.pat.vars v).map sArg).toArray w fun e w' => e = .returned val ∧ Below w.heap.size w w') : ValidS P gl f S := by
  intro args ents v o hu hF Fr RO ρ own w vals hgl H hρ hents hd
  obtain ⟨rfl, rfl⟩ := unCall_simple hP hu
  obtain ⟨hus, val, hv, hc⟩ := h v o hF
  have hvals : vals = ((Tup.toL S.pat.vars v).map sArg).toArray := by
    apply Array.toList_inj.1
    rw [DL.of_vals hd]
  subst hvals
  refine (hc w (fun g o hg => (hgl g o hg).2)).mono ?_
  rintro e w' ⟨rfl, hb⟩
  have ha := adv_below hb
  rw [hus]
  exact ⟨val, ρ, own, RO, rfl, H.adv ha, hv ρ, fun b hb => by simp [eraH] at hb, fun _ h => h, .loose (adv_frame' H ha) hs⟩

theorem validS_made {S : TSum} (hs : ¬ Str gl) (hP : simpleP S.pat = true) (h : ∀ v o, S.F v = some o → ∃ (et : Nat) (ks : List CK) (xs : List (rowT ks)), S.res o = (.own 0 0, [⟨0, 0, .row true et ks xs⟩]) ∧ ∃ (cs : List (List Value)), xs.map (encT ks) = cs.map (fun l => l.map Cell.v) ∧
      cs.length ≤ 9223372036854775807 ∧ (∀ x ∈ cs.flatten, x.oneCell' = true) ∧
      ∀ w, GLw gl w → Calls P f ((Tup.toL S.pat.vars v).map sArg).toArray w fun e w' => e = .returned (.slice (some ⟨w.heap.size, 0, none⟩) cs.length cs.length) ∧ w' = w.alloc (.cells cs.flatten.toArray et)) : ValidS P gl f S := by
  intro args ents v o hu hF Fr RO ρ own w vals hgl H hρ hents hd
  obtain ⟨rfl, rfl⟩ := unCall_simple hP hu
  obtain ⟨et, ks, xs, hres, cs, hcs, hn, hone, hc⟩ := h v o hF
  have hvals : vals = ((Tup.toL S.pat.vars v).map sArg).toArray := by
    apply Array.toList_inj.1
    rw [DL.of_vals hd]
  subst hvals
  refine (hc w (fun g o hg => (hgl g o hg).2)).mono ?_
  rintro e w' ⟨rfl, rfl⟩
  have hlen : ∀ l ∈ cs, l.length = ks.length := by
    intro l hl
    have : l.map Cell.v ∈ cs.map (fun l => l.map Cell.v) := List.mem_map_of_mem hl
    rw [← hcs] at this
    obtain ⟨x, _, hx⟩ := List.mem_map.1 this
    have := congrArg List.length hx
    rw [encT_length, List.length_map] at this
    exact this.symm
  have hfl : cs.flatten.length = cs.length * ks.length := by
    clear hone hc hcs hn
    induction cs with
    | nil => simp
    | cons x r ih =>
      simp only [List.flatten_cons, List.length_append, List.length_cons]
      rw [ih (fun l hl => hlen l (by simp [hl])), hlen x (by simp), Nat.succ_mul, Nat.add_comm]
  obtain ⟨ρ', own', h1, h2, h3⟩ := H.new (b := 0) (by simp [eraH, findE]) (.cells cs.flatten.toArray et) (.row true et ks.length (cs.map fun l => l.map .v)) (.slice (some ⟨w.heap.size, 0, none⟩) cs.length cs.length) (fun ρ' _ => by
    refine ⟨cs.flatten, ⟨by rw [List.length_map]; exact hfl, .inr ⟨w.heap.size, cs.length, cs.flatten.toArray, by rw [List.length_map], Nat.zero_le _, heap_alloc_new w _, by rw [List.length_map]; exact Nat.le_refl _, by simp only [maxLen]; omega, by simpa using hfl, by
      rw [List.length_map, ← hfl]; exact List.take_of_length_le (Nat.le_refl _)⟩⟩, plain_cells RO _ cs hone, fun k => by simp [Value.ownBlock, eq_comm], fun l hl => ?_⟩
    obtain ⟨l', hl', rfl⟩ := List.mem_map.1 hl
    rw [List.length_map]
    exact hlen l' hl')
  rw [hres]
  have e0 : eraH ([⟨0, 0, .row true et ks xs⟩] : List TEnt) = [⟨0, 0, .row true et ks.length (cs.map fun l => l.map .v)⟩] := by simp only [eraH, List.map_cons, List.map_nil, eraE, eraO, hcs]
  show ∃ v ρ' own' RO', _ ∧ HRel Fr RO' ρ' own' (putsF (findE (eraH [])) (eraH ([⟨0, 0, .row true et ks xs⟩] : List TEnt))) _ ∧ _
  rw [e0]
  exact ⟨_, ρ', own', RO, rfl, h1, h3, fun b hb => by simp [eraH] at hb, fun _ h => h, .loose (adv_frame' H (adv_alloc w _ _ (fun k h => h))) hs⟩
end
end Go.Sx
namespace Go.Tx
open Go Go.Sx Go.Proofs
structure Gs (gl : Glob) : Prop where
  utf8 : ∀ w, GLw gl w → Lib.Utf8Tabs 5 6 w
  maxlen : ∃ m, ∀ w, GLw gl w → w.cell? ⟨2, 0, none⟩ = some (.int .i64 m)
  db64 : ∀ w, GLw gl w → TabAt 8 Lib.deBruijn64tab w
  ne : ¬ Str gl
theorem hb_ {P : Program} {fn : Func} (f : Nat) (h : P.funcs[f]? = some fn) (h1 : (fn.name == "runtime.NumGoroutine") = false) (h2 : fn.body.isNone = false) : HasBody P f := ⟨fn, h, h1, h2⟩

noncomputable def strings_Split_s : TSum := TSum.one ⟨[.b .str, .b .str], 2, [(0, .v), (1, .v)], []⟩ (List ByteArray) (fun v => strings_Split v.1 v.2) (fun l => (.own 0 0, [⟨0, 0, .row true 9 [.b .str] l⟩]))
theorem strings_Split_v {gl : Glob} (hg : Gs gl) : ValidS Tryz.prog gl 159 strings_Split_s := by
  obtain ⟨m, hm⟩ := hg.maxlen
  refine validS_made hg.ne (by kernel_rfl) ?_
  rintro ⟨s, sep⟩ o ho
  have ho' : strings_Split s sep = some o := ho
  unfold strings_Split at ho'
  split at ho'
  · rename_i hc
    cases ho'
    refine ⟨9, [.b .str], _, rfl, (Lib.splitB sep 0 (Lib.countB s sep) s).map (fun x => [.string x]), ?_, ?_, ?_, fun w hw => ?_⟩
    · rw [List.map_map]; rfl
    · rw [List.length_map, Lib.splitB_all sep hc.2 0 _ s rfl]
      have := Lib.countB_le sep hc.2 s.size s (Nat.le_refl _)
      omega
    · intro x hx
      simp only [List.mem_flatten, List.mem_map] at hx
      obtain ⟨l, ⟨y, _, rfl⟩, hx⟩ := hx
      simp only [List.mem_singleton] at hx
      subst hx
      rfl
    · refine (Tryz.strings_Split s sep m w hc.1 (hm w hw) hc.2).mono ?_
      rintro e w' ⟨rfl, rfl⟩
      have hfl : ∀ l : List ByteArray, (l.map (fun x => [Value.string x])).flatten = l.map Value.string := by
        intro l
        induction l with
        | nil => rfl
        | cons x r ih => simp [ih]
      rw [List.length_map, Lib.splitB_all sep hc.2 0 _ s rfl, hfl]
      exact ⟨rfl, rfl⟩
  · cases ho'

noncomputable def utf8_DecodeLastRuneInString_s : TSum := TSum.one ⟨[.b .str], 1, [(0, .v)], []⟩ (Int × Int) (fun v => utf8_DecodeLastRuneInString v) (fun o => (.tup [.v (.int .i32 o.1), .v (.int .i64 o.2)], []))
theorem utf8_DecodeLastRuneInString_v {gl : Glob} (hg : Gs gl) : ValidS Tryz.prog gl 202 utf8_DecodeLastRuneInString_s := by
  refine validS_pure hg.ne (by kernel_rfl) ?_
  rintro s o ho
  have ho' : utf8_DecodeLastRuneInString s = some o := ho
  unfold utf8_DecodeLastRuneInString at ho'
  split at ho'
  · rename_i hc
    cases ho'
    exact ⟨rfl, _, fun ρ => ⟨#[_, _], rfl, rfl, rfl, trivial⟩, fun w hw => Tryz.utf8_DecodeLastRuneInString s w hc (hg.utf8 w hw)⟩
  · cases ho'
end Go.Tx

namespace Go.Tx
open Go Go.Sx Go.Proofs
def strings_Contains (s sub : ByteArray) : Option Bool := if decide (s.size < 4294967281) = true then some (Lib.contains s.data.toList sub.data.toList) else none
noncomputable def strings_Contains_s : TSum := TSum.one ⟨[.b .str, .b .str], 2, [(0, .v), (1, .v)], []⟩ Bool (fun v => strings_Contains v.1 v.2) (fun o => (.v (.bool o), []))
theorem strings_Contains_v {gl : Glob} (hg : Gs gl) : ValidS Tryz.prog gl 136 strings_Contains_s := by
  obtain ⟨m, hm⟩ := hg.maxlen
  refine validS_pure hg.ne (by kernel_rfl) ?_
  rintro ⟨s, sub⟩ o ho
  have ho' : strings_Contains s sub = some o := ho
  unfold strings_Contains at ho'
  split at ho'
  · rename_i hc
    cases ho'
    rw [decide_eq_true_eq] at hc
    refine ⟨rfl, _, fun ρ => rfl, fun w hw => (Tryz.strings_Contains s sub m w hc (hm w hw)).mono ?_⟩
    rintro e w' ⟨rfl, rfl⟩
    exact ⟨rfl, Go.RowKit.Below.refl _ _⟩
  · cases ho'
end Go.Tx

namespace Go.Tx
open Go Go.Sx Go.Proofs
end Go.Tx

namespace Go.Tx
open Go Go.Sx Go.Proofs
end Go.Tx

namespace Go.Sx
open Go
theorem HRel.start (w : World) : HRel (fun _ => False) (fun k => k < w.heap.size) (fun _ _ => none) (fun _ _ => False) (findE []) w where
  ent b e h := by cases h
  non b h k hk := hk
  dom b u h := absurd rfl h
  one b u x h := by cases h
  disj b b' k h _ := h.elim
  ro b k h := h.elim
  rofr k h := ⟨fun h => h, h⟩
  fr k h := h.elim

end Go.Sx
