/- Part 7 of the proof of the statement that the last part names; it asks for no condition of its own. Here: TxLib, TxLib2, TxLib3, TxLib4, TxRun. -/
import Derived.Test.YtgkfbembnlgahaaGreatDoorQae
import Derived.Test.YtgkfbembnlgahaaGreatDoorQaf
import Derived.Below
import Derived.Lib.SplitLaws
import Derived.Shelf.Spec.TrailingZeros
/- Contracts of the library, as TX wants them. -/
set_option linter.unusedVariables false
set_option linter.unusedSimpArgs false
set_option maxRecDepth 100000

namespace Go.Sx
open Go.RowKit
/-- The laid variables as a world has them. -/
def GLw (gl : Glob) (w : World) : Prop := ∀ g o, gl g = some o → w.heap[g]? = some o
theorem adv_below {w w' : World} (h : Below w.heap.size w w') : Adv (fun k => k < w.heap.size) w w' := ⟨h.os, h.tape, h.output, h.size, fun k hk => h.block k hk⟩

def sArg : SigV → Value
  | ⟨.b k, x⟩ => k.enc x
  | _ => undef
def simpleP (P : Pat) : Bool := P.heap.isEmpty && P.slots.all (fun p => match p.2 with
  | .v => true
  | _ => false)
theorem args_simple {m : NMap} : ∀ (l : List (Nat × SP)) (args : List SVal) (i : Nat) (vs : List SigV), (l.all (fun p => match p.2 with
    | .v => true
    | _ => false)) = true → matchArgs i l args m = some vs → args = (vs.map sArg).map .v
  | [], [], i, vs, _, h => by simp only [matchArgs] at h; cases h; rfl
  | [], _ :: _, i, vs, _, h => by simp [matchArgs] at h
  | _ :: _, [], i, vs, _, h => by simp [matchArgs] at h
  | (t, p) :: l, x :: r, i, vs, hl, h => by
    simp only [List.all_cons, Bool.and_eq_true] at hl
    simp only [matchArgs] at h
    split at h
    · split at h
      · rename_i a b ha hb
        cases h
        have ih := args_simple l r _ b hl.2 hb
        cases p with
        | v =>
          cases x with
          | v y =>
            simp only [matchS] at ha
            split at ha
            · rename_i s hs
              cases ha
              obtain ⟨k, t', rfl, ht⟩ := sig_enc hs
              rw [ih]
              simp only [List.cons_append, List.nil_append, List.map_cons, sArg, ht]
            · cases ha
          | _ => simp [matchS] at ha
        | _ => simp at hl
      · cases h
    · cases h
theorem unCall_simple {P : Pat} (hP : simpleP P = true) {args : List SVal} {ents : List TEnt} {v : Vars P.vars} (h : unCall P args ents = some v) : ents = [] ∧ args = ((Tup.toL P.vars v).map sArg).map .v := by
  unfold simpleP at hP
  simp only [Bool.and_eq_true, List.isEmpty_iff] at hP
  unfold unCall at h
  split at h
  · rename_i a b ha hb
    rw [Tup.toL_ofL _ _ _ h]
    rw [hP.1] at hb
    cases ents with
    | nil =>
      simp only [matchEnts] at hb
      cases hb
      rw [List.append_nil]
      exact ⟨rfl, args_simple _ _ _ _ hP.2 ha⟩
    | cons e r => simp [matchEnts] at hb
  · cases h

section
variable {P : Program} {gl : Glob} {f : FuncId}
theorem adv_frame' {Fr RO : Nat → Prop} {ρ : Rho} {own : Foot} {hp : HpF} {w w' : World} (H : HRel Fr RO ρ own hp w) (h : Adv (fun k => k < w.heap.size) w w') : Adv (fun k => RO k ∨ Fr k) w w' :=
  h.mono (fun k hk => by
    rcases hk with hk | hk
    · exact (H.rofr k hk).2
    · exact H.fr k hk)

theorem validS_none {S : TSum} (h : ∀ v, S.F v = none) : ValidS P gl f S := fun args ents v o hu hF => by rw [h v] at hF; cases hF
/-- A contract that hands back plain values and leaves memory alone. -/
theorem validS_pure {S : TSum} (hs : ¬ Str gl) (hP : simpleP S.pat = true) (h : ∀ v o, S.F v = some o → (S.res o).2 = [] ∧ ∃ val, (∀ ρ, D ρ (S.res o).1 val) ∧ ∀ w, GLw gl w → Calls P f ((Tup.toL S.pat.vars v).map sArg).toArray w fun e w' => e = .returned val ∧ Below w.heap.size w w') : ValidS P gl f S := by
  intro args ents v o hu hF Fr RO ρ own w vals hgl H hρ hents hd
  obtain ⟨rfl, rfl⟩ := unCall_simple hP hu
  obtain ⟨hus, val, hv, hc⟩ := h v o hF
  have hvals : vals = ((Tup.toL S.pat.vars v).map sArg).toArray := by
    apply Array.toList_inj.1
    rw [DL.of_vals hd]
  subst hvals
  refine (hc w (fun g o hg => (hgl g o hg).2)).mono ?_
  rintro e w' ⟨rfl, hb⟩
  have ha := adv_below hb
  rw [hus]
  exact ⟨val, ρ, own, RO, rfl, H.adv ha, hv ρ, fun b hb => by simp [eraH] at hb, fun _ h => h, .loose (adv_frame' H ha) hs⟩

/-- A contract that hands back a slice of its own making. -/
theorem validS_made {S : TSum} (hs : ¬ Str gl) (hP : simpleP S.pat = true) (h : ∀ v o, S.F v = some o → ∃ (et : Nat) (ks : List CK) (xs : List (rowT ks)), S.res o = (.own 0 0, [⟨0, 0, .row true et ks xs⟩]) ∧ ∃ (cs : List (List Value)), xs.map (encT ks) = cs.map (fun l => l.map Cell.v) ∧
      cs.length ≤ 9223372036854775807 ∧ (∀ x ∈ cs.flatten, x.oneCell' = true) ∧
      ∀ w, GLw gl w → Calls P f ((Tup.toL S.pat.vars v).map sArg).toArray w fun e w' => e = .returned (.slice (some ⟨w.heap.size, 0, none⟩) cs.length cs.length) ∧ w' = w.alloc (.cells cs.flatten.toArray et)) : ValidS P gl f S := by
  intro args ents v o hu hF Fr RO ρ own w vals hgl H hρ hents hd
  obtain ⟨rfl, rfl⟩ := unCall_simple hP hu
  obtain ⟨et, ks, xs, hres, cs, hcs, hn, hone, hc⟩ := h v o hF
  have hvals : vals = ((Tup.toL S.pat.vars v).map sArg).toArray := by
    apply Array.toList_inj.1
    rw [DL.of_vals hd]
  subst hvals
  refine (hc w (fun g o hg => (hgl g o hg).2)).mono ?_
  rintro e w' ⟨rfl, rfl⟩
  have hlen : ∀ l ∈ cs, l.length = ks.length := by
    intro l hl
    have : l.map Cell.v ∈ cs.map (fun l => l.map Cell.v) := List.mem_map_of_mem hl
    rw [← hcs] at this
    obtain ⟨x, _, hx⟩ := List.mem_map.1 this
    have := congrArg List.length hx
    rw [encT_length, List.length_map] at this
    exact this.symm
  have hfl : cs.flatten.length = cs.length * ks.length := by
    clear hone hc hcs hn
    induction cs with
    | nil => simp
    | cons x r ih =>
      simp only [List.flatten_cons, List.length_append, List.length_cons]
      rw [ih (fun l hl => hlen l (by simp [hl])), hlen x (by simp), Nat.succ_mul, Nat.add_comm]
  obtain ⟨ρ', own', h1, h2, h3⟩ := H.new (b := 0) (by simp [eraH, findE]) (.cells cs.flatten.toArray et) (.row true et ks.length (cs.map fun l => l.map .v)) (.slice (some ⟨w.heap.size, 0, none⟩) cs.length cs.length) (fun ρ' _ => by
    refine ⟨cs.flatten, ⟨by rw [List.length_map]; exact hfl, .inr ⟨w.heap.size, cs.length, cs.flatten.toArray, by rw [List.length_map], Nat.zero_le _, heap_alloc_new w _, by rw [List.length_map]; exact Nat.le_refl _, by simp only [maxLen]; omega, by simpa using hfl, by
      rw [List.length_map, ← hfl]; exact List.take_of_length_le (Nat.le_refl _)⟩⟩, plain_cells RO _ cs hone, fun k => by simp [Value.ownBlock, eq_comm], fun l hl => ?_⟩
    obtain ⟨l', hl', rfl⟩ := List.mem_map.1 hl
    rw [List.length_map]
    exact hlen l' hl')
  rw [hres]
  have e0 : eraH ([⟨0, 0, .row true et ks xs⟩] : List TEnt) = [⟨0, 0, .row true et ks.length (cs.map fun l => l.map .v)⟩] := by simp only [eraH, List.map_cons, List.map_nil, eraE, eraO, hcs]
  show ∃ v ρ' own' RO', _ ∧ HRel Fr RO' ρ' own' (putsF (findE (eraH [])) (eraH ([⟨0, 0, .row true et ks xs⟩] : List TEnt))) _ ∧ _
  rw [e0]
  exact ⟨_, ρ', own', RO, rfl, h1, h3, fun b hb => by simp [eraH] at hb, fun _ h => h, .loose (adv_frame' H (adv_alloc w _ _ (fun k h => h))) hs⟩
end
end Go.Sx

namespace Go.Tx
open Go Go.Sx Go.Proofs
/-- What is asked of the library's variables. -/
structure Gs (gl : Glob) : Prop where
  utf8 : ∀ w, GLw gl w → Lib.Utf8Tabs 5 6 w
  maxlen : ∃ m, ∀ w, GLw gl w → w.cell? ⟨2, 0, none⟩ = some (.int .i64 m)
  db64 : ∀ w, GLw gl w → TabAt 8 Lib.deBruijn64tab w
  ne : ¬ Str gl
theorem hb_ {P : Program} {fn : Func} (f : Nat) (h : P.funcs[f]? = some fn) (h1 : (fn.name == "runtime.NumGoroutine") = false) (h2 : fn.body.isNone = false) : HasBody P f := ⟨fn, h, h1, h2⟩

noncomputable def strings_Split_s : TSum := TSum.one ⟨[.b .str, .b .str], 2, [(0, .v), (1, .v)], []⟩ (List ByteArray) (fun v => strings_Split v.1 v.2) (fun l => (.own 0 0, [⟨0, 0, .row true 9 [.b .str] l⟩]))
theorem strings_Split_v {gl : Glob} (hg : Gs gl) : ValidS Tryz.prog gl 159 strings_Split_s := by
  obtain ⟨m, hm⟩ := hg.maxlen
  refine validS_made hg.ne (by kernel_rfl) ?_
  rintro ⟨s, sep⟩ o ho
  have ho' : strings_Split s sep = some o := ho
  unfold strings_Split at ho'
  split at ho'
  · rename_i hc
    cases ho'
    refine ⟨9, [.b .str], _, rfl, (Lib.splitB sep 0 (Lib.countB s sep) s).map (fun x => [.string x]), ?_, ?_, ?_, fun w hw => ?_⟩
    · rw [List.map_map]; rfl
    · rw [List.length_map, Lib.splitB_all sep hc.2 0 _ s rfl]
      have := Lib.countB_le sep hc.2 s.size s (Nat.le_refl _)
      omega
    · intro x hx
      simp only [List.mem_flatten, List.mem_map] at hx
      obtain ⟨l, ⟨y, _, rfl⟩, hx⟩ := hx
      simp only [List.mem_singleton] at hx
      subst hx
      rfl
    · refine (Tryz.strings_Split s sep m w hc.1 (hm w hw) hc.2).mono ?_
      rintro e w' ⟨rfl, rfl⟩
      have hfl : ∀ l : List ByteArray, (l.map (fun x => [Value.string x])).flatten = l.map Value.string := by
        intro l
        induction l with
        | nil => rfl
        | cons x r ih => simp [ih]
      rw [List.length_map, Lib.splitB_all sep hc.2 0 _ s rfl, hfl]
      exact ⟨rfl, rfl⟩
  · cases ho'

noncomputable def utf8_DecodeLastRuneInString_s : TSum := TSum.one ⟨[.b .str], 1, [(0, .v)], []⟩ (Int × Int) (fun v => utf8_DecodeLastRuneInString v) (fun o => (.tup [.v (.int .i32 o.1), .v (.int .i64 o.2)], []))
theorem utf8_DecodeLastRuneInString_v {gl : Glob} (hg : Gs gl) : ValidS Tryz.prog gl 202 utf8_DecodeLastRuneInString_s := by
  refine validS_pure hg.ne (by kernel_rfl) ?_
  rintro s o ho
  have ho' : utf8_DecodeLastRuneInString s = some o := ho
  unfold utf8_DecodeLastRuneInString at ho'
  split at ho'
  · rename_i hc
    cases ho'
    exact ⟨rfl, _, fun ρ => ⟨#[_, _], rfl, rfl, rfl, trivial⟩, fun w hw => Tryz.utf8_DecodeLastRuneInString s w hc (hg.utf8 w hw)⟩
  · cases ho'
end Go.Tx

/- Contracts of the library, further ones: strings.ToUpper (ascii), Repeat, Contains. -/
set_option linter.unusedVariables false
namespace Go.Tx
open Go Go.Sx Go.Proofs

def asciiB (s : ByteArray) : Bool := s.data.toList.all (fun b => decide (b.toNat < 128))
def strings_ToUpper (s : ByteArray) : Option ByteArray := if (decide (s.size ≤ 140737488355328) && asciiB s) = true then some ⟨(Lib.toUpperA s.data.toList).toArray⟩ else none
noncomputable def strings_ToUpper_s : TSum := TSum.one ⟨[.b .str], 1, [(0, .v)], []⟩ ByteArray (fun v => strings_ToUpper v) (fun o => (.v (.string o), []))
theorem strings_ToUpper_v {gl : Glob} (hg : Gs gl) : ValidS Tryz.prog gl 155 strings_ToUpper_s := by
  refine validS_pure hg.ne (by kernel_rfl) ?_
  rintro s o ho
  have ho' : strings_ToUpper s = some o := ho
  unfold strings_ToUpper at ho'
  split at ho'
  · rename_i hc
    cases ho'
    rw [Bool.and_eq_true, decide_eq_true_eq] at hc
    refine ⟨rfl, _, fun ρ => rfl, fun w hw => Tryz.strings_ToUpper_ascii s w hc.1 (fun j b hb => ?_)⟩
    have := List.all_eq_true.1 hc.2 b (List.mem_of_getElem? hb)
    simpa using this
  · cases ho'

def strings_Repeat (s : ByteArray) (c : Int) : Option ByteArray := if (decide (0 ≤ c) && (decide (c ≤ 9223372036854775807) && decide (s.size * c.toNat ≤ 140737488355328))) = true then some ⟨(Lib.repeatL s.data.toList c.toNat).toArray⟩ else none
noncomputable def strings_Repeat_s : TSum := TSum.one ⟨[.b .str, .b (.int .i64)], 2, [(0, .v), (1, .v)], []⟩ ByteArray (fun v => strings_Repeat v.1 v.2) (fun o => (.v (.string o), []))
theorem strings_Repeat_v {gl : Glob} (hg : Gs gl) : ValidS Tryz.prog gl 157 strings_Repeat_s := by
  refine validS_pure hg.ne (by kernel_rfl) ?_
  rintro ⟨s, (c : Int)⟩ o ho
  have ho' : strings_Repeat s c = some o := ho
  unfold strings_Repeat at ho'
  split at ho'
  · rename_i hc
    cases ho'
    rw [Bool.and_eq_true, Bool.and_eq_true, decide_eq_true_eq, decide_eq_true_eq, decide_eq_true_eq] at hc
    refine ⟨rfl, _, fun ρ => rfl, fun w hw => ?_⟩
    have hcc : ((c.toNat : Nat) : Int) = c := by omega
    have h := Tryz.strings_Repeat s c.toNat w (by omega) hc.2.2
    rw [hcc] at h
    exact h
  · cases ho'

def strings_Contains (s sub : ByteArray) : Option Bool := if decide (s.size < 4294967281) = true then some (Lib.contains s.data.toList sub.data.toList) else none
noncomputable def strings_Contains_s : TSum := TSum.one ⟨[.b .str, .b .str], 2, [(0, .v), (1, .v)], []⟩ Bool (fun v => strings_Contains v.1 v.2) (fun o => (.v (.bool o), []))
theorem strings_Contains_v {gl : Glob} (hg : Gs gl) : ValidS Tryz.prog gl 136 strings_Contains_s := by
  obtain ⟨m, hm⟩ := hg.maxlen
  refine validS_pure hg.ne (by kernel_rfl) ?_
  rintro ⟨s, sub⟩ o ho
  have ho' : strings_Contains s sub = some o := ho
  unfold strings_Contains at ho'
  split at ho'
  · rename_i hc
    cases ho'
    rw [decide_eq_true_eq] at hc
    refine ⟨rfl, _, fun ρ => rfl, fun w hw => (Tryz.strings_Contains s sub m w hc (hm w hw)).mono ?_⟩
    rintro e w' ⟨rfl, rfl⟩
    exact ⟨rfl, Go.RowKit.Below.refl _ _⟩
  · cases ho'
end Go.Tx

/- strings.Join: a contract whose argument is a row. -/
set_option linter.unusedVariables false
namespace Go.Tx
open Go Go.Sx Go.Proofs

def joinP (rw' : Bool) : Pat := ⟨[.b .str, .r [.b .str]], 2, [(0, .own 0), (1, .v)], [⟨0, 0, .row rw' 9 [.b .str]⟩]⟩
theorem join_inv {rw' : Bool} {args : List SVal} {ents : List TEnt} {v : Vars (joinP rw').vars} (h : unCall (joinP rw') args ents = some v) :
    ∃ (s : ByteArray) (l : List ByteArray), v = (s, l) ∧ args = [.own 0 0, .v (.string s)] ∧ ents = [⟨0, 0, .row rw' 9 [.b .str] l⟩] := by
  have hl := unCall_length h
  match args, hl with
  | [x, y], _ =>
    unfold unCall at h
    split at h
    · rename_i a b ha hb
      simp only [joinP, matchArgs, if_true, Nat.zero_add] at ha
      split at ha
      · rename_i a1 a2 hx hy
        cases ha
        have hx' : x = .own 0 0 ∧ a1 = [] := by
          cases x with
          | own b' u =>
            simp only [matchS, idMap, List.map_cons, List.map_nil, NMap.at, if_true] at hx
            split at hx
            · rename_i hc; obtain ⟨rfl, rfl⟩ := hc; cases hx; exact ⟨rfl, rfl⟩
            · cases hx
          | _ => simp [matchS] at hx
        obtain ⟨rfl, rfl⟩ := hx'
        split at hy
        · rename_i s1 s2 hy1 hy2
          cases hy
          cases hy2
          have hy' : ∃ z sg, y = .v z ∧ sigOf z = some sg ∧ s1 = [sg] := by
            cases y with
            | v z =>
              simp only [matchS] at hy1
              split at hy1
              · rename_i sg hsg; cases hy1; exact ⟨z, sg, rfl, hsg, rfl⟩
              · cases hy1
            | _ => simp [matchS] at hy1
          obtain ⟨z, sg, rfl, hsg, rfl⟩ := hy'
          match ents, hb with
          | [], hb => simp [joinP, matchEnts] at hb
          | e1 :: e2 :: r, hb =>
            simp only [joinP, matchEnts] at hb
            split at hb
            · split at hb
              · rename_i q1 q2 _ hq
                cases hq
              · cases hb
            · cases hb
          | [e], hb =>
            simp only [joinP, matchEnts] at hb
            split at hb
            · rename_i hc
              obtain ⟨n, ve, ob⟩ := e
              simp only at hc
              obtain ⟨rfl, rfl⟩ := hc
              split at hb
              · rename_i q1 q2 hq1 hq2
                cases hb
                cases hq2
                cases ob with
                | row rw2 et ks xs =>
                  simp only [matchO] at hq1
                  split at hq1
                  · rename_i hk
                    obtain ⟨rfl, rfl, rfl⟩ := hk
                    cases hq1
                    cases z with
                    | string s =>
                      cases hsg
                      have hv : some (s, xs) = some v := h
                      cases hv
                      exact ⟨s, xs, rfl, rfl, rfl⟩
                    | int k n => cases hsg; exact absurd h (by simp [Tup.ofL, joinP])
                    | bool b => cases hsg; exact absurd h (by simp [Tup.ofL, joinP])
                    | _ => cases hsg
                  · cases hq1
                | _ => simp [matchO] at hq1
              · cases hb
            · cases hb
        · cases hy
      · cases ha
    · cases h
def strings_Join (sep : ByteArray) (l : List ByteArray) : Option ByteArray := if (decide (l.length ≤ 140737488355328) && decide ((Lib.join (l.map (fun x => x.data.toList)) sep.data.toList).length ≤ 140737488355328)) = true then
  (if l.length = 0 then some ⟨#[]⟩ else some ⟨(Lib.join (l.map (fun x => x.data.toList)) sep.data.toList).toArray⟩) else none
noncomputable def strings_Join_s : TSum := TSum.one (joinP true) ByteArray (fun v => strings_Join v.1 v.2) (fun o => (.v (.string o), []))

theorem cells_str {RO : Nat → Prop} {w : World} : ∀ (l : List ByteArray) (ys : List Value), CellsAre RO w (l.map (encT [.b .str])).flatten ys → ys = l.map Value.string
  | [], ys, h => by
    cases ys with
    | nil => rfl
    | cons y r => exact False.elim h
  | x :: l, ys, h => by
    cases ys with
    | nil => exact False.elim h
    | cons y r =>
      have h' : CellIs RO w (.v (.string x)) y ∧ CellsAre RO w (l.map (encT [.b .str])).flatten r := h
      have h1 : y = .string x := h'.1.1
      rw [cells_str l r h'.2, h1]
      rfl

theorem strings_Join_v {gl : Glob} (hg : Gs gl) : ValidS Tryz.prog gl 158 strings_Join_s := by
  intro args ents v o hu hF Fr RO ρ own w vals hgl H hρ hents hd
  obtain ⟨s, l, rfl, rfl, rfl⟩ := join_inv hu
  have hF' : strings_Join s l = some o := hF
  obtain ⟨X, hvals, hX⟩ : ∃ X, vals = #[X, .string s] ∧ ρ 0 0 = some X := by
    obtain ⟨vl⟩ := vals
    match vl, hd with
    | [X, Y], hd =>
      obtain ⟨h1, h2, _⟩ := hd
      have h2' : Y = .string s := h2
      subst h2'
      exact ⟨X, rfl, h1⟩
  subst hvals
  obtain ⟨_, X', hX', hh⟩ := H.ent 0 ⟨0, 0, .row true 9 1 (l.map (encT [.b .str]))⟩ rfl
  have hXX : X' = X := Option.some.inj (hX'.symm.trans hX)
  subst hXX
  obtain ⟨vs, hrow, hcells, _, _⟩ := hh
  have hvs := cells_str l vs hcells
  have key : Calls Tryz.prog 158 #[X', .string s] w fun e w' => e = .returned (.string o) ∧ Go.RowKit.Below w.heap.size w w' := by
    unfold strings_Join at hF'
    split at hF'
    · rename_i hc
      rw [Bool.and_eq_true, decide_eq_true_eq, decide_eq_true_eq] at hc
      have hlen : (l.map (encT [.b .str])).length = l.length := List.length_map _
      rw [hlen] at hrow
      split at hF'
      · rename_i h0
        cases hF'
        rcases hrow.2 with ⟨hs, _⟩ | ⟨g, cap, cur, hs, _⟩
        · rw [hs]
          refine (Tryz.strings_Join_none none 0 s w).mono ?_
          rintro e w' ⟨rfl, rfl⟩
          exact ⟨rfl, Go.RowKit.Below.refl _ _⟩
        · rw [hs, h0]
          refine (Tryz.strings_Join_none (some ⟨g, 0, none⟩) cap s w).mono ?_
          rintro e w' ⟨rfl, rfl⟩
          exact ⟨rfl, Go.RowKit.Below.refl _ _⟩
      · rename_i h0
        cases hF'
        have hrow' := hrow
        rcases hrow.2 with ⟨_, hn⟩ | ⟨g, cap, cur, hs, _, hgg, hnc, hcm, _, _⟩
        · exact absurd hn h0
        · rw [hs]
          have hcl := hrow'.cells (by rw [hs]; rfl : X'.ownBlock = some g)
          have hsz : g < w.heap.size := (Array.getElem?_eq_some_iff.1 hgg).1
          exact Tryz.strings_Join g 0 cap l s w (fun j x hj => by
            have := hcl j (.string x) (by rw [hvs, List.getElem?_map, hj]; rfl)
            cases j with
            | zero => simpa [Addr.add] using this
            | succ j => simpa [Addr.add] using this) hsz hc.1 hnc hc.2
    · cases hF'
  refine key.mono ?_
  rintro e w' ⟨rfl, hb⟩
  have ha := adv_below hb
  exact ⟨.string o, ρ, own, RO, rfl, H.adv ha, rfl, fun b hb => ⟨by
    have hb0 : b = 0 := by simp [eraH] at hb; exact hb
    subst hb0
    exact ⟨_, rfl⟩, fun x hx => hx⟩, fun _ h => h, .loose (adv_frame' H ha) hg.ne⟩
end Go.Tx

/- Contracts of the library, further ones: math/bits.TrailingZeros64 (the kit's own, with this dump's numbers). -/
set_option linter.unusedVariables false
namespace Go.Tx
open Go Go.Sx Go.Proofs

def tzRen : Go.Shelf.Ren := ⟨fun | 29 => 275 | n => n, fun | 0 => 0 | 3 => 3 | 4 => 4 | 5 => 5 | 22 => 226 | 25 => 245 | 54 => 349 | n => n, fun | 1 => 8 | n => n⟩
theorem tzLays : Go.Proofs.Lays7.n29 Tryz.prog tzRen := {
  mixed := by kernel_rfl
  f29 := Tryz.func275.trans (congrArg some (by kernel_rfl))
  t0 := Tryz.underlying0
  a0 := Tryz.isAgg0
  z0 := Tryz.sizeOf0
  v0 := Tryz.zeroValue0
  i0 := by kernel_rfl
  t3 := Tryz.underlying3
  a3 := Tryz.isAgg3
  z3 := Tryz.sizeOf3
  v3 := Tryz.zeroValue3
  i3 := by kernel_rfl
  t4 := Tryz.underlying4
  a4 := Tryz.isAgg4
  z4 := Tryz.sizeOf4
  v4 := Tryz.zeroValue4
  i4 := by kernel_rfl
  t5 := Tryz.underlying5
  a5 := Tryz.isAgg5
  z5 := Tryz.sizeOf5
  v5 := Tryz.zeroValue5
  i5 := by kernel_rfl
  t22 := Tryz.underlying226
  a22 := Tryz.isAgg226
  z22 := Tryz.sizeOf226
  v22 := Tryz.zeroValue226
  i22 := by kernel_rfl
  t25 := Tryz.underlying245
  a25 := Tryz.isAgg245
  z25 := Tryz.sizeOf245
  v25 := Tryz.zeroValue245
  i25 := by kernel_rfl
  t54 := Tryz.underlying349
  a54 := Tryz.isAgg349
  z54 := Tryz.sizeOf349
  g1 := by kernel_rfl }

def bits_TrailingZeros64 (x : Int) : Option Int := if (decide (0 ≤ x) && decide (x < 18446744073709551616)) = true then some ((Lib.ctz 64 x.toNat : Nat) : Int) else none
noncomputable def bits_TrailingZeros64_s : TSum := TSum.one ⟨[.b (.int .u64)], 1, [(0, .v)], []⟩ Int (fun v => bits_TrailingZeros64 v) (fun o => (.v (.int .i64 o), []))
theorem bits_TrailingZeros64_v {gl : Glob} (hg : Gs gl) : ValidS Tryz.prog gl 275 bits_TrailingZeros64_s := by
  refine validS_pure hg.ne (by kernel_rfl) ?_
  rintro (x : Int) o ho
  have ho' : bits_TrailingZeros64 x = some o := ho
  unfold bits_TrailingZeros64 at ho'
  split at ho'
  · rename_i hc
    cases ho'
    rw [Bool.and_eq_true, decide_eq_true_eq, decide_eq_true_eq] at hc
    refine ⟨rfl, _, fun ρ => rfl, fun w hw => ?_⟩
    have hx : ((x.toNat : Nat) : Int) = x := by omega
    have h := Any7.bits_TrailingZeros64 tzLays x.toNat (by omega) w (fun _ => hg.db64 w hw)
    rw [hx] at h
    refine h.mono ?_
    rintro e w' ⟨rfl, rfl⟩
    exact ⟨rfl, Go.RowKit.Below.refl _ _⟩
  · cases ho'
end Go.Tx

/- From a contract to a call: arguments that are plain values, a plain value as the result. -/
set_option linter.unusedVariables false
namespace Go.Sx
open Go

theorem HRel.start (w : World) : HRel (fun _ => False) (fun k => k < w.heap.size) (fun _ _ => none) (fun _ _ => False) (findE []) w where
  ent b e h := by cases h
  non b h k hk := hk
  dom b u h := absurd rfl h
  one b u x h := by cases h
  disj b b' k h _ := h.elim
  ro b k h := h.elim
  rofr k h := ⟨fun h => h, h⟩
  fr k h := h.elim

theorem calls_simple {P : Program} {gl : Glob} {f : FuncId} {S : TSum} {args : List SVal} {vals : Array Value} {v : Vars S.pat.vars} {o : S.O} {val : Value} {w : World} (hV : ValidS P gl f S)
    (hu : unCall S.pat args [] = some v) (hF : S.F v = some o) (hr : S.res o = (.v val, [])) (hd : ∀ ρ, DL ρ args vals.toList) (hg : GLw gl w) :
    Calls P f vals w fun e w' => e = .returned val ∧ Go.RowKit.Below w.heap.size w w' := by
  have h := hV args [] v o hu hF (fun _ => False) (fun k => k < w.heap.size) (fun _ _ => none) (fun _ _ => False) w vals
    (fun g o hgo => by
      have h1 := hg g o hgo
      refine ⟨.inl ?_, h1⟩
      exact (Array.getElem?_eq_some_iff.1 h1).1)
    (HRel.start w) (fun b u hb => absurd rfl hb) (fun b => by simp [eraH, findE]) (hd _)
  refine h.mono ?_
  rintro e w' ⟨x, ρ', own', RO', he, _, hD, _, _, ha⟩
  rw [hr] at hD
  refine ⟨by rw [he]; exact congrArg _ hD, ha.os, ha.tape, ha.output, ha.size, fun k hk => ha.block k (.inl hk)⟩
end Go.Sx
