/- Part 12 of the proof of the statement that the last part names; it asks for no condition of its own. Here: TxSort. -/
import Derived.Test.YtgkfbembnlgahaaGreatDoorQag
import Derived.Test.YtgkfbembnlgahaaGreatDoorQah
import Derived.Test.YtgkfbembnlgahaaGreatDoorQaj
import Derived.Test.YtgkfbembnlgahaaGreatDoorQak
import Derived.Lib.QuietBelow
import Derived.Shelf.SlSortCmp.NoneTotal
import Derived.Shelf.SlicesE.Clone
import Derived.Shelf.Spec.SlicesGrow
set_option linter.unusedVariables false
set_option maxRecDepth 100000
namespace Go.Sx
theorem ent1_inv {rw' : Bool} {et : Nat} {ks : List CK} {ents : List TEnt} {m : NMap} {b : List SigV} (h : matchEnts [⟨0, 0, .row rw' et ks⟩] ents m = some b) :
    ∃ l : List (rowT ks), ents = [⟨0, 0, .row rw' et ks l⟩] ∧ b = [⟨.r ks, l⟩] := by
  match ents, h with
  | [], h => simp [matchEnts] at h
  | e1 :: e2 :: r, h =>
    simp only [matchEnts] at h
    split at h
    · split at h
      · rename_i q1 q2 _ hq
        cases hq
      · cases h
    · cases h
  | [⟨n, ve, ob⟩], h =>
    simp only [matchEnts] at h
    split at h
    · rename_i hc
      obtain ⟨rfl, rfl⟩ := hc
      split at h
      · rename_i q1 q2 hq1 hq2
        cases h
        cases hq2
        cases ob with
        | row rw2 et2 ks2 xs =>
          simp only [matchO] at hq1
          split at hq1
          · rename_i hk
            obtain ⟨rfl, rfl, rfl⟩ := hk
            cases hq1
            exact ⟨xs, rfl, rfl⟩
          · cases hq1
        | _ => simp [matchO] at hq1
      · cases h
    · cases h
theorem own_inv {rw' : Bool} {et : Nat} {ks : List CK} {x : SVal} {a : List SigV} (h : matchS (idMap [⟨0, 0, .row rw' et ks⟩]) (.own 0) x = some a) : x = .own 0 0 ∧ a = [] := by
  cases x with
  | own b' u =>
    simp only [matchS, idMap, List.map_cons, List.map_nil, NMap.at, if_true] at h
    split at h
    · rename_i hc; obtain ⟨rfl, rfl⟩ := hc; cases h; exact ⟨rfl, rfl⟩
    · cases h
  | _ => simp [matchS] at h
theorem fn_inv {m : NMap} {g : Nat} {x : SVal} {a : List SigV} (h : matchS m (.fn g [] []) x = some a) : x = .fn g [] [] ∧ a = [] := by
  cases x with
  | fn f l k =>
    simp only [matchS] at h
    split at h
    · rename_i hf
      subst hf
      split at h
      · rename_i a1 a2 h1 h2
        cases h
        cases l with
        | nil =>
          cases k with
          | nil => simp only [matchL] at h1 h2; cases h1; cases h2; exact ⟨rfl, rfl⟩
          | cons _ _ => simp [matchL] at h2
        | cons _ _ => simp [matchL] at h1
      · cases h
    · cases h
  | _ => simp [matchS] at h
theorem row1_inv {rw' : Bool} {et : Nat} {ks : List CK} {args : List SVal} {ents : List TEnt} {v : Vars [.r ks]} (h : unCall ⟨[.r ks], 1, [(0, .own 0)], [⟨0, 0, .row rw' et ks⟩]⟩ args ents = some v) :
    args = [.own 0 0] ∧ ents = [⟨0, 0, .row rw' et ks v⟩] := by
  have hl := unCall_length h
  match args, hl with
  | [x], _ =>
    unfold unCall at h
    split at h
    · rename_i a b ha hb
      simp only [matchArgs, if_true] at ha
      split at ha
      · rename_i a1 a2 hx hy
        cases ha
        cases hy
        obtain ⟨rfl, rfl⟩ := own_inv hx
        obtain ⟨l, rfl, rfl⟩ := ent1_inv hb
        have hv : ([⟨.r ks, v⟩] : List SigV) = [⟨.r ks, l⟩] := Tup.toL_ofL _ _ _ h
        have hv' : v = l := by
          have := List.head_eq_of_cons_eq hv
          exact eq_of_heq (Sigma.mk.inj this).2
        subst hv'
        exact ⟨rfl, rfl⟩
      · cases ha
    · cases h
theorem rowFn_inv {rw' : Bool} {et g : Nat} {ks : List CK} {args : List SVal} {ents : List TEnt} {v : Vars [.r ks]} (h : unCall ⟨[.r ks], 2, [(0, .own 0), (1, .fn g [] [])], [⟨0, 0, .row rw' et ks⟩]⟩ args ents = some v) :
    args = [.own 0 0, .fn g [] []] ∧ ents = [⟨0, 0, .row rw' et ks v⟩] := by
  have hl := unCall_length h
  match args, hl with
  | [x, y], _ =>
    unfold unCall at h
    split at h
    · rename_i a b ha hb
      simp only [matchArgs, if_true, Nat.zero_add] at ha
      split at ha
      · rename_i a1 a2 hx hy
        cases ha
        split at hy
        · rename_i s1 s2 hy1 hy2
          cases hy
          cases hy2
          obtain ⟨rfl, rfl⟩ := own_inv hx
          obtain ⟨rfl, rfl⟩ := fn_inv hy1
          obtain ⟨l, rfl, rfl⟩ := ent1_inv hb
          have hv : ([⟨.r ks, v⟩] : List SigV) = [⟨.r ks, l⟩] := Tup.toL_ofL _ _ _ h
          have hv' : v = l := by
            have := List.head_eq_of_cons_eq hv
            exact eq_of_heq (Sigma.mk.inj this).2
          subst hv'
          exact ⟨rfl, rfl⟩
        · cases hy
      · cases ha
    · cases h
end Go.Sx
namespace Go.Sx
open Go.Sort Go.Proofs Go.RowKit
theorem calls_strict {P : Program} {f : FuncId} {S : TSum} {args : List SVal} {vals : Array Value} {v : Vars S.pat.vars} {o : S.O} {val : Value} {w : World} (hV : ValidS P (fun _ => none) f S)
    (hu : unCall S.pat args [] = some v) (hF : S.F v = some o) (hr : S.res o = (.v val, [])) (hd : ∀ ρ, DL ρ args vals.toList) :
    Calls P f vals w fun e w' => e = .returned val ∧ ∃ q os', w' = grow (w.drewN q) os' := by
  have h := hV args [] v o hu hF (fun _ => False) (fun k => k < w.heap.size) (fun _ _ => none) (fun _ _ => False) w vals
    (fun g o hgo => by cases hgo) (HRel.start w) (fun b u hb => absurd rfl hb) (fun b => by simp [eraH, findE]) (hd _)
  refine h.mono ?_
  rintro e w' ⟨x, ρ', own', RO', he, _, hD, _, _, ha⟩
  rw [hr] at hD
  refine ⟨by rw [he]; exact congrArg _ hD, ?_⟩
  have hb : Below w.heap.size w w' := ⟨ha.os, ha.tape, ha.output, ha.size, fun k hk => ha.block k (.inl hk)⟩
  obtain ⟨p, hp⟩ := regrown_of_below hb
  have hdr := ha.dr (fun g => rfl)
  have e1 : w'.drawn = p.d := by rw [hp]; rfl
  refine ⟨p.d - w.drawn, p.os, ?_⟩
  have e2 : redrawn w p.d = w.drewN (p.d - w.drawn) := by
    unfold redrawn World.drewN
    congr 1
    omega
  rw [← e2]
  exact hp

def encSp (x : Int × Int) : List Value := [.int .u32 x.1, .int .u32 x.2]
abbrev ksSp : List CK := [.b (.int .u32), .b (.int .u32)]
def rowsSp (l : List (Int × Int)) : List (List Cell) := l.map fun x => [.v (.int .u32 x.1), .v (.int .u32 x.2)]
theorem cells_sp {RO : Nat → Prop} {w : World} : ∀ (l : List (Int × Int)) (ys : List Value), CellsAre RO w (rowsSp l).flatten ys → ys = (l.map encSp).flatten
  | [], ys, h => by
    cases ys with
    | nil => rfl
    | cons y r => exact False.elim h
  | x :: l, ys, h => by
    match ys, h with
    | [], h => exact False.elim h
    | [y], h => exact False.elim h.2
    | y :: z :: r, h =>
      have h' : CellIs RO w (.v (.int .u32 x.1)) y ∧ CellIs RO w (.v (.int .u32 x.2)) z ∧ CellsAre RO w (rowsSp l).flatten r := h
      rw [cells_sp l r h'.2.2, h'.1.1, h'.2.1.1]
      rfl
theorem cells_sp' {RO : Nat → Prop} {w : World} : ∀ (l : List (Int × Int)), CellsAre RO w (rowsSp l).flatten (l.map encSp).flatten
  | [] => trivial
  | x :: l => ⟨⟨rfl, rfl⟩, ⟨rfl, rfl⟩, cells_sp' l⟩
theorem rowsSp_len (l : List (Int × Int)) : (rowsSp l).length = l.length := List.length_map _
theorem rowsSp_two (l : List (Int × Int)) : ∀ r ∈ rowsSp l, r.length = 2 := fun r hr => by
  obtain ⟨x, _, rfl⟩ := List.mem_map.1 hr
  rfl
theorem flat_len (l : List (Int × Int)) : (l.map encSp).flatten.length = l.length * 2 := by
  induction l with
  | nil => rfl
  | cons x r ih => simp only [List.map_cons, List.flatten_cons, List.length_append, ih, List.length_cons, encSp, List.length_nil]; omega
theorem flat_get : ∀ (l : List (Int × Int)) (t : Nat), t < l.length * 2 → (l.map encSp).flatten[t]? = some ((encSp l[t / 2]!)[t % 2]!)
  | [], t, h => by simp at h
  | x :: l, 0, h => rfl
  | x :: l, 1, h => rfl
  | x :: l, t + 2, h => by
    have h' : t < l.length * 2 := by simp only [List.length_cons] at h; omega
    have e1 : (t + 2) / 2 = t / 2 + 1 := by omega
    have e2 : (t + 2) % 2 = t % 2 := by omega
    have ih := flat_get l t h'
    rw [e1, e2]
    have e3 : ((x :: l).map encSp).flatten[t + 2]? = (l.map encSp).flatten[t]? := rfl
    rw [e3, ih]
    rfl
theorem flatK_list (l : List (Int × Int)) : (flatK encSp 2 l.toArray).toList = (l.map encSp).flatten := by
  apply List.ext_getElem?
  intro t
  by_cases ht : t < l.length * 2
  · have hs : t < (flatK encSp 2 l.toArray).size := by rw [size_flatK]; simpa using ht
    rw [flat_get l t ht, Array.getElem?_toList, Array.getElem?_eq_getElem hs, ← getElem!_pos _ t hs, get_flatK _ _ _ _ (by simpa using ht)]
    congr 3
    have h2 : t / 2 < l.length := by omega
    simp
  · rw [List.getElem?_eq_none (by rw [Array.length_toList, size_flatK]; simpa using ht), List.getElem?_eq_none (by rw [flat_len]; omega)]
end Go.Sx
namespace Go.Sx
open Go.Sort Go.Proofs Go.RowKit
theorem putsF_self {f : HpF} {e : Ent} (h : f e.name = some e) : putsF f [e] = f := by
  funext b
  show (if e.name = b then some e else f b) = f b
  split
  · rename_i hb; rw [← hb, h]
  · rfl
theorem heap_sortedV {w : World} {g n : Nat} {os : Array Obj} {cur : Array Value} {e : TypeId} {fr : Nat × Nat} (d : Array Value) (hb : w.heap[g]? = some (.cells cur e fr)) :
    (grow (putRow id (Sort.ahead w n) g 0 d) os).heap[g]? = some (.cells (putCells id 0 d cur) e fr) := by
  have hg : g < w.heap.size := (Array.getElem?_eq_some_iff.1 hb).1
  rw [heap_grow_old _ _ (by simpa using hg)]
  simp [putRow, mapBlock, Sort.ahead, Array.getElem?_modify, hb, onCells]
theorem take_putCellsV (cur F : Array Value) (h : F.size ≤ cur.size) : (putCells id 0 F cur).toList.take F.size = F.toList := by
  apply List.ext_getElem?
  intro j
  by_cases hj : j < F.size
  · rw [List.getElem?_take_of_lt hj, Array.getElem?_toList, Array.getElem?_toList]
    simp [putCells, hj, show j < cur.size by omega]
  · rw [List.getElem?_take_eq_none (by omega), List.getElem?_eq_none (by simp; omega)]
theorem holds_of_blockV {w : World} {g : Nat} {cur : Array Value} {e : TypeId} {F : Array Value} (hb : w.heap[g]? = some (.cells cur e (0, 0))) (ht : cur.toList.take F.size = F.toList) : Holds id w g 0 F := by
  intro j hj
  refine ⟨?_, by simp [World.frozen?, hb]⟩
  have h1 : (cur.toList.take F.size)[j]? = F.toList[j]? := by rw [ht]
  rw [List.getElem?_take_of_lt hj] at h1
  simp only [World.cell?, hb, Nat.zero_add]
  simp only [Option.isSome_none, Bool.false_eq_true, if_false]
  rw [← Array.getElem?_toList, h1]
  simp [hj]
end Go.Sx
namespace Go.Tx
open Go Go.Sx Go.Proofs Go.Sort Go.RowKit Go.Pc
theorem cmp_lays (blk off size : Nat) (w : World) : CmpLays Tryz.prog 126 #[] encSp 2 cfS blk off size w := by
  intro m os dk hs x y
  exact calls_strict (S := Go.Ts.tables_Merge_2_s) (args := [.agg [.v (.int .u32 x.1), .v (.int .u32 x.2)], .agg [.v (.int .u32 y.1), .v (.int .u32 y.2)]]) (v := (x.1, x.2, y.1, y.2)) (o := cfS x y) (val := .int .i64 (cfS x y))
    Go.Ts.tables_Merge_2_v (by kernel_rfl) (merge2_is x y) (by kernel_rfl) (fun ρ => ⟨⟨_, rfl, rfl, rfl, trivial⟩, ⟨_, rfl, rfl, rfl, trivial⟩, trivial⟩)
theorem cmp_enters : ∀ args w, (callFunc 126 args).run Tryz.prog w = .ok (.enter 126 args) w := enters_of Tryz.func126 (by kernel_rfl) rfl

def slices_SortFunc (l : List (Int × Int)) : Option (List (Int × Int)) := if decide (l.length < 4611686018427387904) = true then some (sortS l) else none
noncomputable def slices_SortFunc_s : TSum := TSum.one ⟨[.r ksSp], 2, [(0, .own 0), (1, .fn 126 [] [])], [⟨0, 0, .row true 83 ksSp⟩]⟩ (List (Int × Int)) (fun v => slices_SortFunc v) (fun l => (.tup [], [⟨0, 0, .row true 83 ksSp l⟩]))
theorem slices_SortFunc_v {gl : Glob} (hg : Gs gl) : ValidS Tryz.prog gl 125 slices_SortFunc_s := by
  intro args ents v o hu hF Fr RO ρ own w vals hgl H hρ hents hd
  obtain ⟨rfl, rfl⟩ := rowFn_inv hu
  have hF' : slices_SortFunc v = some o := hF
  unfold slices_SortFunc at hF'
  split at hF'
  case isFalse => cases hF'
  rename_i hlen
  rw [decide_eq_true_eq] at hlen
  cases hF'
  change List (Int × Int) at v
  obtain ⟨X, hvals, hX⟩ : ∃ X, vals = #[X, .func (.func 126) #[] #[]] ∧ ρ 0 0 = some X := by
    obtain ⟨vl⟩ := vals
    match vl, hd with
    | [X, Y], hd =>
      obtain ⟨h1, ⟨fa, ca, hY, hfa, hca⟩, _⟩ := hd
      have e1 : fa = #[] := by
        obtain ⟨l⟩ := fa
        cases l with
        | nil => rfl
        | cons _ _ => exact False.elim hfa
      have e2 : ca = #[] := by
        obtain ⟨l⟩ := ca
        cases l with
        | nil => rfl
        | cons _ _ => exact False.elim hca
      subst e1 e2
      subst hY
      exact ⟨X, rfl, h1⟩
  subst hvals
  obtain ⟨_, X', hX', hh1⟩ := H.ent 0 ⟨0, 0, .row true 83 2 (rowsSp v)⟩ rfl
  have hh : holds ρ X' (own 0) RO w (.row true 83 2 (rowsSp v)) := hh1
  obtain rfl : X' = X := Option.some.inj (hX'.symm.trans hX)
  obtain ⟨vs, hrow, hcells, hown, hlens⟩ := hh
  have hvs := cells_sp v vs hcells
  subst hvs
  rw [rowsSp_len] at hrow
  rcases hrow.2 with ⟨hs, h0⟩ | ⟨g, cap, cur, hs, hbase, hgg, hnc, hcm, hcs, htk⟩
  · have hv0 : v = [] := List.length_eq_zero_iff.1 h0
    subst hv0
    subst hs
    have h : Calls Tryz.prog 125 #[.slice none 0 0, .func (.func 126) #[] #[]] w fun e w' => e = .returned (.tuple #[]) ∧ w' = w := AnyF.slices_SortFunc_none Tryz.sortSpan none 0 (.func (.func 126) #[] #[]) w
    refine h.mono ?_
    rintro e w' ⟨rfl, rfl⟩
    have hp : putsF (findE (eraH [⟨0, 0, .row true 83 ksSp []⟩])) (eraH [⟨0, 0, .row true 83 ksSp []⟩]) = findE (eraH [⟨0, 0, .row true 83 ksSp []⟩]) := putsF_self rfl
    refine ⟨.tuple #[], ρ, own, RO, rfl, ?_, ⟨#[], rfl, trivial⟩, fun b hb => ⟨?_, fun x hx => hx⟩, fun _ h => h, AdvD.refl _ _ _⟩
    · show HRel Fr RO ρ own (putsF (findE (eraH [⟨0, 0, .row true 83 ksSp []⟩])) (eraH [⟨0, 0, .row true 83 ksSp (sortS [])⟩])) w'
      rw [show sortS [] = [] by simp [sortS]]
      exact (congrArg (fun f => HRel Fr RO ρ own f w') hp).mpr H
    · have hb0 : b = 0 := by simp [eraH] at hb; exact hb
      subst hb0
      exact ⟨_, rfl⟩
  · subst hs
    have hblk : g < w.heap.size := (Array.getElem?_eq_some_iff.1 hgg).1
    have hfl : (flatK encSp 2 v.toArray).size = v.length * 2 := by rw [size_flatK]; simp
    have hH : HoldsK encSp 2 w g 0 v.toArray := by
      refine holds_of_blockV hgg ?_
      rw [hfl, htk, flatK_list]
    have h := AnyQ.slices_SortFunc_total Tryz.sortSpan 2 Tryz.isAgg83 Tryz.sizeOf83 encSp (fun _ => rfl) (fun x u hu => by
      simp only [encSp, List.mem_cons, List.not_mem_nil, or_false] at hu
      rcases hu with rfl | rfl <;> rfl) cfS swoS 126 #[] g 0 cap v.toArray w cmp_enters (cmp_lays g 0 _ w) hH hblk (by simpa using hlen) totS
    have h' : Calls Tryz.prog 125 #[.slice (some ⟨g, 0, none⟩) v.length cap, .func (.func 126) #[] #[]] w fun e w' => e = .returned (.tuple #[]) ∧ ∃ n os, w' = sortWorldK encSp 2 w g 0 n (sortS v).toArray os := h
    refine h'.mono ?_
    rintro e w' ⟨rfl, n, os, rfl⟩
    have hlS : (sortS v).length = v.length := (sortS_perm v).length_eq
    have hflS : (flatK encSp 2 (sortS v).toArray).size = v.length * 2 := by rw [size_flatK]; simp [hlS]
    have hheap : (sortWorldK encSp 2 w g 0 n (sortS v).toArray os).heap[g]? = some (.cells (putCells id 0 (flatK encSp 2 (sortS v).toArray) cur) 83 (0, 0)) := heap_sortedV _ hgg
    have hadv : Adv (fun k => k < w.heap.size ∧ ¬ own 0 k) w (sortWorldK encSp 2 w g 0 n (sortS v).toArray os) := by
      refine ⟨rfl, rfl, rfl, ?_, fun k hk => ?_⟩
      · show w.heap.size ≤ (grow (putRow id (Sort.ahead w n) g 0 _) os).heap.size
        simp [grow]
      · have hne : g ≠ k := fun hc => hk.2 ((hown k).2 (by rw [← hc]; rfl))
        show (grow (putRow id (Sort.ahead w n) g 0 _) os).heap[k]? = _
        rw [heap_grow_old _ _ (by simpa using hk.1)]
        simp [putRow, mapBlock, Sort.ahead, Array.getElem?_modify, hne]
    obtain ⟨H', hle⟩ := H.upd 0 0 (.row true 83 2 (rowsSp (sortS v))) (.slice (some ⟨g, 0, none⟩) v.length cap) (own 0) (.inl hX') (fun e he => by cases he; exact Nat.le_refl _) hadv
      ⟨((sortS v).map encSp).flatten, ⟨by rw [rowsSp_len, flat_len], .inr ⟨g, cap, _, by rw [rowsSp_len, hlS], hbase, hheap, by rw [rowsSp_len, hlS]; exact hnc, hcm, by simp [putCells, hcs], by
        rw [rowsSp_len, hlS, ← hflS, ← flatK_list]
        exact take_putCellsV cur _ (by rw [hflS, hcs]; exact Nat.mul_le_mul_right 2 hnc)⟩⟩, cells_sp' _, hown, rowsSp_two _⟩
      (fun k hk => ⟨.inl hk, by
        have := (hown k).1 hk
        have hkg : g = k := by simpa [Value.ownBlock] using this
        subst hkg
        exact (Array.getElem?_eq_some_iff.1 hheap).1⟩)
    refine ⟨.tuple #[], _, _, RO, rfl, H', ⟨#[], rfl, trivial⟩, fun b hb => ⟨?_, fun x hx => ?_⟩, fun _ h => h, .loose (hadv.mono fun k hk => ?_) hg.ne⟩
    · have hb0 : b = 0 := by simp [eraH] at hb; exact hb
      subst hb0
      exact ⟨_, rfl⟩
    · have hb0 : b = 0 := by simp [eraH] at hb; exact hb
      subst hb0
      simp only [Rho.set, and_self, if_true] at hx
      rw [hX']; exact hx
    · rcases hk with hk | hk
      · exact ⟨(H.rofr k hk).2, fun hc => (H.ro 0 k hc).1 hk⟩
      · exact ⟨H.fr k hk, fun hc => (H.ro 0 k hc).2.1 hk⟩
end Go.Tx
