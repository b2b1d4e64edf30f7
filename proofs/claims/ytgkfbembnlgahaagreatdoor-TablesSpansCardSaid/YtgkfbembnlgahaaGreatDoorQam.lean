/- Part 13 of the proof of the statement that the last part names; it asks for no condition of its own. Here: TxSort2. -/
import Derived.Test.YtgkfbembnlgahaaGreatDoorQal
set_option linter.unusedVariables false
set_option maxRecDepth 100000
namespace Go.Proofs
open Go.Shelf Go.RowKit Go.Lib
variable {P : Program} {ρ : Ren}
set_option maxHeartbeats 2000000 in
theorem clone_any (L : SlLaysE0.n41 P ρ) (i0 : TypeInfo) (z : Value) (size bytes : Nat) (hi : P.info? (ρ.t 23) = some i0) (hz0 : i0.zero = some z) (hz1 : i0.size = size) (hz2 : i0.bytes = bytes) (hzs : z.cells.size = size) (hsz : 0 < size)
    (z23 : ∀ w, (Go.sizeOf (ρ.t 23)).run P w = .ok size w) (ad : Addr) (n c : Nat) (news : List Value) (w : World) (hl : news.length = n * size) (hn : n ≤ maxLen) (hbig : n * bytes ≤ 140737488355328)
    (hc : ∀ j u, news[j]? = some u → w.cell? (ad.add j) = some u) (h1 : ∀ u ∈ news, u.oneCell' = true) :
    Calls P (ρ.f 41) #[.slice (some ad) n c] w fun e w' => ∃ v', e = .returned v' ∧ w'.ownsRow w.heap.size (ρ.t 23) size v' n news ∧ v' ≠ .slice none 0 0 ∧ Below w.heap.size w w' := by
  have mixed := L.mixed; have t4 := L.t4; have a4 := L.a4; have z4 := L.z4; have v4 := L.v4; have t22 := L.t22; have a22 := L.a22; have z22 := L.z22; have v22 := L.v22
  have q22 : ∀ (w : World) (a : Option Addr) (n c n' c' : Nat), (binOp .eql (ρ.t 22) (.slice a n c) (.slice none n' c')).run P w = .ok (.bool a.isNone) w := fun w a n c n' c' => Lib.run_eql_slice_nil w _ _ a n c n' c' L.t22
  have u22 : ∀ w, Sem.run P (underlying (ρ.t 22)) w = .ok (TypeDesc.slice (ρ.t 23)) w := run_underlying t22
  have A : Aside (∀ j u, news[j]? = some u → w.cell? (ad.add j) = some u) := hc
  clear hc
  obtain ⟨_, _, FG⟩ := L.f41
  go_enter FG, SlBodyN.n41_ntmps ρ
  go_wp2_with (at_builtin; refine wpList_append_own _ rfl _ _ (ρ.t 22) rfl w.heap.size (ρ.t 23) i0 z size bytes t22 hi hz0 hz1 hz2 hzs hsz _ _ _ rfl (World.ownsRow_made w #[] 0 (Nat.le_refl _) (Nat.zero_le _) (by simp)) ad n c news rfl ?qc1 ?qc2 ?qc3 ?qc4 ?qc5 ?qc6 ?_)
  case qc1 => exact hl
  case qc2 =>
    intro j u hj
    exact Lib.cell?_alloc_some _ (A.out j u hj)
  case qc3 => exact h1
  case qc4 => rw [Nat.zero_add]; exact hn
  case qc5 => rw [Nat.zero_add]; exact hbig
  case qc6 => simp
  intro v' w1 hown hgrow hnil
  go_wp2
  go_ret
  refine ⟨v', rfl, by simpa using hown, ?_, ?_⟩
  · exact hnil
  · exact ((Below.refl _ w).alloc (Nat.le_refl _) _).grown hgrow (by simp) (by intro k hk; simp [Value.ownBlock] at hk; omega)
end Go.Proofs
namespace Go.Sx
open Go.RowKit
theorem row_reads {ρ : Rho} {X : Value} {own RO : Nat → Prop} {w : World} {rw' : Bool} {v : List (Int × Int)} (h : holds ρ X own RO w (.row rw' 83 2 (rowsSp v))) :
    ∃ a c, X = .slice a v.length c ∧ v.length ≤ 9223372036854775807 ∧ (a = none → v.length = 0) ∧ ∀ ad, a = some ad → ∀ j u, (v.map encSp).flatten[j]? = some u → w.cell? (ad.add j) = some u := by
  cases rw' with
  | false =>
    obtain ⟨vs, ⟨a, c, hX, hl, ⟨hn, hc⟩, hrd⟩, hcells, _, _⟩ := h
    have hvs := cells_sp v vs hcells
    subst hvs
    rw [rowsSp_len] at hX hn hrd
    refine ⟨a, c, hX, hn, fun ha => ?_, fun ad ha j u hj => ?_⟩
    · rcases Nat.eq_zero_or_pos v.length with h0 | h0
      · exact h0
      · obtain ⟨ad, h1, _⟩ := hrd h0
        rw [ha] at h1; cases h1
    · rcases Nat.eq_zero_or_pos v.length with h0 | h0
      · have hv0 : v = [] := List.length_eq_zero_iff.1 h0
        subst hv0
        cases hj
      · obtain ⟨ad', h1, _, h2⟩ := hrd h0
        rw [ha] at h1
        cases h1
        exact h2 j u hj
  | true =>
    obtain ⟨vs, hrow, hcells, _, _⟩ := h
    have hvs := cells_sp v vs hcells
    subst hvs
    rw [rowsSp_len] at hrow
    rcases hrow.2 with ⟨hs, h0⟩ | ⟨g, cap, cur, hs, hbase, hgg, hnc, hcm, hcs, htk⟩
    · exact ⟨none, 0, by rw [hs, h0], by omega, fun _ => h0, fun ad ha => by cases ha⟩
    · refine ⟨some ⟨g, 0, none⟩, cap, hs, by unfold maxLen at hcm; omega, fun h => (by cases h), fun ad ha j u hj => ?_⟩
      cases ha
      have := hrow.cells (by rw [hs]; rfl) j u hj
      cases j with
      | zero => simpa [Addr.add] using this
      | succ j => simpa [Addr.add] using this
end Go.Sx
namespace Go.Tx
open Go Go.Sx Go.Proofs Go.Sort Go.RowKit Go.Pc
def slices_Clone_sp (l : List (Int × Int)) : Option (List (Int × Int)) := if decide (l.length * 8 ≤ 140737488355328) = true then some l else none
def slices_CloneW (l : List (Int × Int)) : Option (List (Int × Int)) := slices_Clone_sp l
def slices_CloneR (l : List (Int × Int)) : Option (List (Int × Int)) := slices_Clone_sp l
noncomputable def clone_s (rw' : Bool) (F : List (Int × Int) → Option (List (Int × Int))) : TSum := TSum.one ⟨[.r ksSp], 1, [(0, .own 0)], [⟨0, 0, .row rw' 83 ksSp⟩]⟩ (List (Int × Int)) (fun v => F v) (fun l => (.own 1 0, [⟨1, 0, .row true 83 ksSp l⟩]))
theorem ty83 : tiOf Tryz.prog 83 = some ⟨2, 8, .struct [(0, 22), (1, 22)], [.int .u32 0, .int .u32 0]⟩ := by kernel_rfl
theorem clone_calls {v : List (Int × Int)} {X : Value} {w : World} (h8 : v.length * 8 ≤ 140737488355328)
    (h : ∃ a c, X = .slice a v.length c ∧ v.length ≤ 9223372036854775807 ∧ (a = none → v.length = 0) ∧ ∀ ad, a = some ad → ∀ j u, (v.map encSp).flatten[j]? = some u → w.cell? (ad.add j) = some u) :
    Calls Tryz.prog 123 #[X] w fun e w' => ∃ v', e = .returned v' ∧ w'.ownsRow 0 83 2 v' v.length (v.map encSp).flatten ∧ (∀ k, v'.ownBlock = some k → w.heap.size ≤ k ∧ k < w'.heap.size) ∧ Below w.heap.size w w' := by
  obtain ⟨a, c, rfl, hn, h0, hc⟩ := h
  cases a with
  | none =>
    have hv0 : v = [] := List.length_eq_zero_iff.1 (h0 rfl)
    subst hv0
    have h : Calls Tryz.prog 123 #[.slice none 0 c] w fun e w' => e = .returned (.slice none 0 0) ∧ w' = w := AnyE.slices_Clone_nil Tryz.cloneSpan 0 c w
    refine h.mono ?_
    rintro e w' ⟨rfl, rfl⟩
    exact ⟨_, rfl, World.ownsRow_nil _ 0 83 2, (fun k hk => by cases hk), Below.refl _ _⟩
  | some ad =>
    obtain ⟨F⟩ := tyFacts ty83
    have hzs : F.z.cells.size = 2 := by
      have := congrArg List.length F.zero
      simpa using this
    have h : Calls Tryz.prog 123 #[.slice (some ad) v.length c] w fun e w' => ∃ v', e = .returned v' ∧ w'.ownsRow w.heap.size 83 2 v' v.length (v.map encSp).flatten ∧ v' ≠ .slice none 0 0 ∧ Below w.heap.size w w' :=
      clone_any Tryz.cloneSpan F.info F.z 2 8 F.hi F.hz F.size F.bytes hzs (by decide) (fun w => Go.Sx.run_sizeOf F w) ad v.length c (v.map encSp).flatten w (flat_len v) (by unfold maxLen; omega) h8 (hc ad rfl) (fun u hu => by
        obtain ⟨l, hl, hul⟩ := List.mem_flatten.1 hu
        obtain ⟨x, _, rfl⟩ := List.mem_map.1 hl
        simp only [encSp, List.mem_cons, List.not_mem_nil, or_false] at hul
        rcases hul with rfl | rfl <;> rfl)
    refine h.mono ?_
    rintro e w' ⟨v', rfl, hown, hne, hb⟩
    refine ⟨v', rfl, ⟨hown.1, ?_⟩, fun k hk => ?_, hb⟩
    · rcases hown.2 with h | ⟨g, cap, cur, h1, h2, h3⟩
      · exact .inl h
      · exact .inr ⟨g, cap, cur, h1, Nat.zero_le _, h3⟩
    · rcases hown.2 with ⟨h1, _⟩ | ⟨g, cap, cur, h1, h2, h3, _⟩
      · exact absurd h1 hne
      · rw [h1] at hk
        have hkg : g = k := by simpa [Value.ownBlock] using hk
        subst hkg
        exact ⟨h2, (Array.getElem?_eq_some_iff.1 h3).1⟩
theorem clone_v (rw' : Bool) {F : List (Int × Int) → Option (List (Int × Int))} (hFF : ∀ l, F l = slices_Clone_sp l) {gl : Glob} (hg : Gs gl) : ValidS Tryz.prog gl 123 (clone_s rw' F) := by
  intro args ents v o hu hF Fr RO ρ own w vals hgl H hρ hents hd
  obtain ⟨rfl, rfl⟩ := row1_inv hu
  have hF' : slices_Clone_sp v = some o := (hFF v).symm.trans hF
  unfold slices_Clone_sp at hF'
  split at hF'
  case isFalse => cases hF'
  rename_i hlen
  rw [decide_eq_true_eq] at hlen
  cases hF'
  change List (Int × Int) at v
  obtain ⟨X, hvals, hX⟩ : ∃ X, vals = #[X] ∧ ρ 0 0 = some X := by
    obtain ⟨vl⟩ := vals
    match vl, hd with
    | [X], hd => exact ⟨X, rfl, hd.1⟩
  subst hvals
  obtain ⟨_, X', hX', hh1⟩ := H.ent 0 ⟨0, 0, .row rw' 83 2 (rowsSp v)⟩ rfl
  have hh : holds ρ X' (own 0) RO w (.row rw' 83 2 (rowsSp v)) := hh1
  obtain rfl : X' = X := Option.some.inj (hX'.symm.trans hX)
  refine (clone_calls hlen (row_reads hh)).mono ?_
  rintro e w' ⟨v', rfl, hrow, hfresh, hb⟩
  have hadv := adv_below hb
  obtain ⟨H', hle⟩ := H.upd 1 0 (.row true 83 2 (rowsSp v)) v' (fun k => v'.ownBlock = some k) (.inr rfl) (fun e he => by cases he) (hadv.mono fun k hk => hk.1)
    ⟨(v.map encSp).flatten, by rw [rowsSp_len]; exact hrow, cells_sp' _, fun k => Iff.rfl, rowsSp_two _⟩ (fun k hk => ⟨.inr (hfresh k hk).1, (hfresh k hk).2⟩)
  refine ⟨v', _, _, RO, rfl, H', by simp [D, Rho.set, clone_s, TSum.one], fun b hb => ⟨?_, fun x hx => ?_⟩, fun _ h => h, .loose (adv_frame' H hadv) hg.ne⟩
  · have hb0 : b = 0 := by simp [eraH] at hb; exact hb
    subst hb0
    exact ⟨_, rfl⟩
  · have hb0 : b = 0 := by simp [eraH] at hb; exact hb
    subst hb0
    simpa [Rho.set] using hx
noncomputable def slices_CloneW_s : TSum := clone_s true slices_CloneW
theorem slices_CloneW_v {gl : Glob} (hg : Gs gl) : ValidS Tryz.prog gl 123 slices_CloneW_s := clone_v true (fun _ => rfl) hg
end Go.Tx
namespace Go.Tx
open Go Go.Sx Go.Proofs Go.Sort Go.RowKit Go.Pc
end Go.Tx
