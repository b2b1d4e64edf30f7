/- Part 5 of the proof of the statement that the last part names; it asks for no condition of its own. Here: TxUn, TxUn2, TxSound, TxFun, TxTy, TxTok, TxLibA. -/
import Derived.Test.YtgkfbembnlgahaaDoorQad
import Derived.Test.YtgkfbembnlgahaaDoorQab
import Derived.Test.YtgkfbembnlgahaaDoorChecked
import Derived.Lib.Split
import Derived.Lib.QuoteLoop
set_option linter.unusedVariables false
set_option linter.unusedSimpArgs false
set_option linter.unnecessarySimpa false
set_option maxRecDepth 100000
namespace Go.Sx
theorem nilSlots_weak (P : Pat) : ∀ (l : List (Nat × SP)) (tm : List SVal) (hp : THp), Weak tm (eraH hp) (nilSlots P l tm hp).1 (eraH (nilSlots P l tm hp).2)
  | [], tm, hp => Weak.refl _ _
  | (t, .own b) :: l, tm, hp => by
    simp only [nilSlots]
    split
    · rename_i hn
      split
      · rename_i z1 z2 z3 et ks he hf
        have hw := weak_nil tm (eraH hp) t (1000000 + t) et ks.length hn (findT_none hf)
        have : putE (eraH hp) ⟨1000000 + t, 0, .row true et ks.length []⟩ = eraH (putT hp ⟨1000000 + t, 0, .row true et ks []⟩) := by rw [put_era]; rfl
        rw [this] at hw
        exact hw.trans (nilSlots_weak P l _ _)
      · exact nilSlots_weak P l tm hp
    · exact nilSlots_weak P l tm hp
  | (_, .v) :: l, tm, hp => nilSlots_weak P l tm hp
  | (_, .lit _) :: l, tm, hp => nilSlots_weak P l tm hp
  | (_, .ptr _ _) :: l, tm, hp => nilSlots_weak P l tm hp
  | (_, .agg _) :: l, tm, hp => nilSlots_weak P l tm hp
  | (_, .tup _) :: l, tm, hp => nilSlots_weak P l tm hp
  | (_, .fn _ _ _) :: l, tm, hp => nilSlots_weak P l tm hp
  | (_, .ifc) :: l, tm, hp => nilSlots_weak P l tm hp
  | (_, .undef) :: l, tm, hp => nilSlots_weak P l tm hp

theorem nilCells_weak (P : Pat) (q : Nat) (tm : List SVal) : ∀ (l : List SP) (i : Nat) (hp : THp), Weak tm (eraH hp) tm (eraH (nilCells P q i l hp))
  | [], i, hp => Weak.refl _ _
  | .own b :: l, i, hp => by
    simp only [nilCells]
    split
    · rename_i z1 u cs hq
      split
      · rename_i hn
        split
        · rename_i z2 z3 z4 et ks he hf
          have hnm := findT_name hq
          simp only at hnm
          subst hnm
          have hw := weak_nil_cell tm (eraH hp) z1 i (2000000 + 100 * z1 + i) et ks.length (findT_some hq) hn (findT_none hf)
          have : putE (putE (eraH hp) ⟨2000000 + 100 * z1 + i, 0, .row true et ks.length []⟩) ⟨z1, u, .cells (setn cs i (.own (2000000 + 100 * z1 + i) 0))⟩ =
              eraH (putT (putT hp ⟨2000000 + 100 * z1 + i, 0, .row true et ks []⟩) ⟨z1, u, .cells (setn cs i (.own (2000000 + 100 * z1 + i) 0))⟩) := by rw [put_era, put_era]; rfl
          rw [this] at hw
          exact hw.trans (nilCells_weak P z1 tm l (i + 1) _)
        · exact nilCells_weak P q tm l (i + 1) hp
      · exact nilCells_weak P q tm l (i + 1) hp
    · exact nilCells_weak P q tm l (i + 1) hp
  | .v :: l, i, hp => nilCells_weak P q tm l (i + 1) hp
  | .lit _ :: l, i, hp => nilCells_weak P q tm l (i + 1) hp
  | .ptr _ _ :: l, i, hp => nilCells_weak P q tm l (i + 1) hp
  | .agg _ :: l, i, hp => nilCells_weak P q tm l (i + 1) hp
  | .tup _ :: l, i, hp => nilCells_weak P q tm l (i + 1) hp
  | .fn _ _ _ :: l, i, hp => nilCells_weak P q tm l (i + 1) hp
  | .ifc :: l, i, hp => nilCells_weak P q tm l (i + 1) hp
  | .undef :: l, i, hp => nilCells_weak P q tm l (i + 1) hp

theorem bindHeap_weak (P : Pat) (tm : List SVal) : ∀ (l : List EP) (hp : THp) (m : NMap), Weak tm (eraH hp) tm (eraH (bindHeap P l hp m).1)
  | [], hp, m => Weak.refl _ _
  | ⟨b, vr, .cells cs⟩ :: r, hp, m => by
    simp only [bindHeap]
    split
    · rename_i q u hm
      split
      · exact (nilCells_weak P q tm cs 0 hp).trans (bindHeap_weak P tm r _ _)
      · exact bindHeap_weak P tm r hp m
    · exact bindHeap_weak P tm r hp m
  | ⟨b, vr, .row _ _ _⟩ :: r, hp, m => bindHeap_weak P tm r hp m
  | ⟨b, vr, .str⟩ :: r, hp, m => bindHeap_weak P tm r hp m

theorem freezeAll_weak (tm : List SVal) (m : NMap) : ∀ (l : List EP) (hp : THp), Weak tm (eraH hp) tm (eraH (freezeAll m l hp))
  | [], hp => Weak.refl _ _
  | ⟨b, vr, .row false et ks⟩ :: r, hp => by
    simp only [freezeAll]
    split
    · rename_i q u hm
      split
      · rename_i z1 u' et' ks' xs hq
        have hnm := findT_name hq
        simp only at hnm
        subst hnm
        have hw := weak_freeze tm (eraH hp) z1 (findT_some hq)
        have : putE (eraH hp) ⟨z1, u', .row false et' ks'.length (xs.map (encT ks'))⟩ = eraH (putT hp ⟨z1, u', .row false et' ks' xs⟩) := by rw [put_era]; rfl
        rw [this] at hw
        exact hw.trans (freezeAll_weak tm m r _)
      · exact freezeAll_weak tm m r hp
    · exact freezeAll_weak tm m r hp
  | ⟨b, vr, .row true et ks⟩ :: r, hp => freezeAll_weak tm m r hp
  | ⟨b, vr, .cells cs⟩ :: r, hp => freezeAll_weak tm m r hp
  | ⟨b, vr, .str⟩ :: r, hp => freezeAll_weak tm m r hp

mutual
def Ren (m : NMap) (pv : Nat → Nat) : SVal → SVal → Prop
  | .undef, _ => True
  | .v x, .v y => x = y
  | .ptr b u o, .ptr b' u' o' => m.at b = some (b', u') ∧ u = pv b ∧ o = o'
  | .own b u, .own b' u' => m.at b = some (b', u') ∧ u = pv b
  | .agg l, .agg l' => RenL m pv l l'
  | .tup l, .tup l' => RenL m pv l l'
  | .fn f l k, .fn f' l' k' => f = f' ∧ RenL m pv l l' ∧ RenL m pv k k'
  | .ifc, .ifc => True
  | _, _ => False
def RenL (m : NMap) (pv : Nat → Nat) : List SVal → List SVal → Prop
  | [], [] => True
  | x :: l, y :: l' => Ren m pv x y ∧ RenL m pv l l'
  | _, _ => False
end
mutual
theorem D.ren {m : NMap} {pv : Nat → Nat} {ρ ρ' : Rho} (h : ∀ b b' u' y, m.at b = some (b', u') → ρ b' u' = some y → ρ' b (pv b) = some y) : ∀ (x y : SVal) (v : Value), Ren m pv x y → D ρ y v → D ρ' x v
  | .undef, _, _, _, _ => trivial
  | .v x, .v y, v, hr, hd => by simp only [Ren] at hr; subst hr; exact hd
  | .ptr b u o, .ptr b' u' o', v, hr, hd => by
    simp only [Ren] at hr
    obtain ⟨h1, rfl, rfl⟩ := hr
    obtain ⟨a, h2, h3⟩ := hd
    exact ⟨a, h _ _ _ _ h1 h2, h3⟩
  | .own b u, .own b' u', v, hr, hd => by
    simp only [Ren] at hr
    obtain ⟨h1, rfl⟩ := hr
    exact h _ _ _ _ h1 hd
  | .agg l, .agg l', v, hr, hd => by
    obtain ⟨arr, h1, h2⟩ := hd
    simp only [Ren] at hr
    exact ⟨arr, h1, DL.ren h l l' _ hr h2⟩
  | .tup l, .tup l', v, hr, hd => by
    obtain ⟨arr, h1, h2⟩ := hd
    simp only [Ren] at hr
    exact ⟨arr, h1, DL.ren h l l' _ hr h2⟩
  | .fn f l k, .fn f' l' k', v, hr, hd => by
    simp only [Ren] at hr
    obtain ⟨rfl, hr1, hr2⟩ := hr
    obtain ⟨fa, ca, h1, h2, h3⟩ := hd
    exact ⟨fa, ca, h1, DL.ren h l l' _ hr1 h2, DL.ren h k k' _ hr2 h3⟩
  | .ifc, .ifc, v, _, hd => hd
  | .elt _ _ _ _ _, _, _, hr, _ => by simp [Ren] at hr
  | .v _, .ptr _ _ _, _, hr, _ | .v _, .own _ _, _, hr, _ | .v _, .elt _ _ _ _ _, _, hr, _ | .v _, .agg _, _, hr, _ | .v _, .tup _, _, hr, _ | .v _, .fn _ _ _, _, hr, _ | .v _, .ifc, _, hr, _ | .v _, .undef, _, hr, _ => by simp [Ren] at hr
  | .ptr _ _ _, .v _, _, hr, _ | .ptr _ _ _, .own _ _, _, hr, _ | .ptr _ _ _, .elt _ _ _ _ _, _, hr, _ | .ptr _ _ _, .agg _, _, hr, _ | .ptr _ _ _, .tup _, _, hr, _ | .ptr _ _ _, .fn _ _ _, _, hr, _ | .ptr _ _ _, .ifc, _, hr, _ | .ptr _ _ _, .undef, _, hr, _ => by simp [Ren] at hr
  | .own _ _, .v _, _, hr, _ | .own _ _, .ptr _ _ _, _, hr, _ | .own _ _, .elt _ _ _ _ _, _, hr, _ | .own _ _, .agg _, _, hr, _ | .own _ _, .tup _, _, hr, _ | .own _ _, .fn _ _ _, _, hr, _ | .own _ _, .ifc, _, hr, _ | .own _ _, .undef, _, hr, _ => by simp [Ren] at hr
  | .agg _, .v _, _, hr, _ | .agg _, .ptr _ _ _, _, hr, _ | .agg _, .own _ _, _, hr, _ | .agg _, .elt _ _ _ _ _, _, hr, _ | .agg _, .tup _, _, hr, _ | .agg _, .fn _ _ _, _, hr, _ | .agg _, .ifc, _, hr, _ | .agg _, .undef, _, hr, _ => by simp [Ren] at hr
  | .tup _, .v _, _, hr, _ | .tup _, .ptr _ _ _, _, hr, _ | .tup _, .own _ _, _, hr, _ | .tup _, .elt _ _ _ _ _, _, hr, _ | .tup _, .agg _, _, hr, _ | .tup _, .fn _ _ _, _, hr, _ | .tup _, .ifc, _, hr, _ | .tup _, .undef, _, hr, _ => by simp [Ren] at hr
  | .fn _ _ _, .v _, _, hr, _ | .fn _ _ _, .ptr _ _ _, _, hr, _ | .fn _ _ _, .own _ _, _, hr, _ | .fn _ _ _, .elt _ _ _ _ _, _, hr, _ | .fn _ _ _, .agg _, _, hr, _ | .fn _ _ _, .tup _, _, hr, _ | .fn _ _ _, .ifc, _, hr, _ | .fn _ _ _, .undef, _, hr, _ => by simp [Ren] at hr
  | .ifc, .v _, _, hr, _ | .ifc, .ptr _ _ _, _, hr, _ | .ifc, .own _ _, _, hr, _ | .ifc, .elt _ _ _ _ _, _, hr, _ | .ifc, .agg _, _, hr, _ | .ifc, .tup _, _, hr, _ | .ifc, .fn _ _ _, _, hr, _ | .ifc, .undef, _, hr, _ => by simp [Ren] at hr
theorem DL.ren {m : NMap} {pv : Nat → Nat} {ρ ρ' : Rho} (h : ∀ b b' u' y, m.at b = some (b', u') → ρ b' u' = some y → ρ' b (pv b) = some y) : ∀ (l l' : List SVal) (vs : List Value), RenL m pv l l' → DL ρ l' vs → DL ρ' l vs
  | [], [], [], _, _ => trivial
  | [], [], _ :: _, _, hd => hd.elim
  | x :: l, y :: l', v :: vs, hr, hd => by
    simp only [RenL] at hr
    exact ⟨D.ren h x y v hr.1 hd.1, DL.ren h l l' vs hr.2 hd.2⟩
  | x :: l, y :: l', [], _, hd => hd.elim
  | [], _ :: _, _, hr, _ => by simp [RenL] at hr
  | _ :: _, [], _, hr, _ => by simp [RenL] at hr
end
theorem sig_enc {x : Value} {s : SigV} (h : sigOf x = some s) : ∃ k t, s = ⟨.b k, t⟩ ∧ BK.enc k t = x := by
  unfold sigOf at h
  split at h
  · cases h; exact ⟨_, _, rfl, rfl⟩
  · cases h; exact ⟨_, _, rfl, rfl⟩
  · cases h; exact ⟨_, _, rfl, rfl⟩
  · cases h
theorem lit_eq {x y : Value} (h : litEq x y = true) : x = y := by
  unfold litEq at h
  split at h
  · simp only [Bool.and_eq_true, beq_iff_eq] at h
    rw [h.1, h.2]
  · rfl
  · rfl
  · rfl
  · rfl
  · rfl
  · rfl
  · cases h

mutual
theorem match_mk {m : NMap} {pv : Nat → Nat} : ∀ (p : SP) (x : SVal) (vs : List SigV), matchS m p x = some vs → ∀ rest, (mkS pv p (vs ++ rest)).2 = rest ∧ Ren m pv (mkS pv p (vs ++ rest)).1 x
  | .v, x, vs, h, rest => by
    cases x with
    | v y =>
      simp only [matchS] at h
      split at h
      · rename_i s hs
        cases h
        obtain ⟨k, t, rfl, ht⟩ := sig_enc hs
        exact ⟨rfl, ht⟩
      · cases h
    | _ => simp [matchS] at h
  | .lit y, x, vs, h, rest => by
    cases x with
    | v z =>
      simp only [matchS] at h
      split at h
      · rename_i hl
        cases h
        exact ⟨rfl, lit_eq hl⟩
      · cases h
    | _ => simp [matchS] at h
  | .ptr b off, x, vs, h, rest => by
    cases x with
    | ptr b' u off' =>
      simp only [matchS] at h
      split at h
      · rename_i b2 u2 hm
        split at h
        · rename_i hc
          obtain ⟨rfl, rfl, rfl⟩ := hc
          cases h
          exact ⟨rfl, hm, rfl, rfl⟩
        · cases h
      · cases h
    | _ => simp [matchS] at h
  | .own b, x, vs, h, rest => by
    cases x with
    | own b' u =>
      simp only [matchS] at h
      split at h
      · rename_i b2 u2 hm
        split at h
        · rename_i hc
          obtain ⟨rfl, rfl⟩ := hc
          cases h
          exact ⟨rfl, hm, rfl⟩
        · cases h
      · cases h
    | _ => simp [matchS] at h
  | .agg l, x, vs, h, rest => by
    cases x with
    | agg l' =>
      simp only [matchS] at h
      obtain ⟨h1, h2⟩ := matchL_mk l l' vs h rest
      exact ⟨h1, h2⟩
    | _ => simp [matchS] at h
  | .tup l, x, vs, h, rest => by
    cases x with
    | tup l' =>
      simp only [matchS] at h
      obtain ⟨h1, h2⟩ := matchL_mk l l' vs h rest
      exact ⟨h1, h2⟩
    | _ => simp [matchS] at h
  | .fn f l k, x, vs, h, rest => by
    cases x with
    | fn f' l' k' =>
      simp only [matchS] at h
      split at h
      · rename_i hf
        split at h
        · rename_i a b ha hb
          cases h
          obtain ⟨h1, h2⟩ := matchL_mk (m := m) (pv := pv) l l' a ha (b ++ rest)
          obtain ⟨h3, h4⟩ := matchL_mk (m := m) (pv := pv) k k' b hb rest
          rw [← List.append_assoc] at h1 h2
          refine ⟨?_, ?_⟩
          · simp only [mkS]
            rw [h1, h3]
          · simp only [mkS, Ren]
            rw [h1]
            exact ⟨hf, h2, h4⟩
        · cases h
      · cases h
    | _ => simp [matchS] at h
  | .ifc, x, vs, h, rest => by
    cases x with
    | ifc => simp only [matchS] at h; cases h; exact ⟨rfl, trivial⟩
    | _ => simp [matchS] at h
  | .undef, x, vs, h, rest => by
    simp only [matchS] at h
    cases h
    exact ⟨rfl, trivial⟩
theorem matchL_mk {m : NMap} {pv : Nat → Nat} : ∀ (l : List SP) (xs : List SVal) (vs : List SigV), matchL m l xs = some vs → ∀ rest, (mkL pv l (vs ++ rest)).2 = rest ∧ RenL m pv (mkL pv l (vs ++ rest)).1 xs
  | [], [], vs, h, rest => by
    simp only [matchL] at h
    cases h
    exact ⟨rfl, trivial⟩
  | p :: l, x :: xs, vs, h, rest => by
    simp only [matchL] at h
    split at h
    · rename_i a b ha hb
      cases h
      obtain ⟨h1, h2⟩ := match_mk (m := m) (pv := pv) p x a ha (b ++ rest)
      obtain ⟨h3, h4⟩ := matchL_mk (m := m) (pv := pv) l xs b hb rest
      rw [← List.append_assoc] at h1 h2
      refine ⟨?_, ?_⟩
      · simp only [mkL]
        rw [h1, h3]
      · simp only [mkL, RenL]
        rw [h1]
        exact ⟨h2, h4⟩
    · cases h
  | [], _ :: _, vs, h, rest => by simp [matchL] at h
  | _ :: _, [], vs, h, rest => by simp [matchL] at h
end
def RenO (m : NMap) (pv : Nat → Nat) : TObj → TObj → Prop
  | .cells l, .cells l' => RenL m pv l l'
  | o, o' => o = o'

theorem matchO_mk {m : NMap} {pv : Nat → Nat} (p : OP) (o : TObj) (vs : List SigV) (h : matchO m p o = some vs) (rest : List SigV) : (mkO pv p (vs ++ rest)).2 = rest ∧ RenO m pv (mkO pv p (vs ++ rest)).1 o := by
  unfold matchO at h
  split at h
  · rename_i l cs
    obtain ⟨h1, h2⟩ := matchL_mk (m := m) (pv := pv) l cs vs h rest
    exact ⟨h1, h2⟩
  · rename_i rw' et ks rw'' et' ks' xs
    split at h
    · rename_i hc
      obtain ⟨rfl, rfl, rfl⟩ := hc
      cases h
      exact ⟨rfl, rfl⟩
    · cases h
  · rename_i s pos
    cases h
    exact ⟨rfl, rfl⟩
  · cases h

theorem matchSlots_mk {m : NMap} {pv : Nat → Nat} (tm : List SVal) : ∀ (l : List (Nat × SP)) (vs : List SigV), matchSlots m l tm = some vs → ∀ (tm0 : List SVal) (rest : List SigV), (∀ t, Ren m pv (nth tm0 t) (nth tm t)) →
    (mkSlots pv l tm0 (vs ++ rest)).2 = rest ∧ ∀ t, Ren m pv (nth (mkSlots pv l tm0 (vs ++ rest)).1 t) (nth tm t)
  | [], vs, h, tm0, rest, h0 => by
    simp only [matchSlots] at h
    cases h
    exact ⟨rfl, h0⟩
  | (t, p) :: l, vs, h, tm0, rest, h0 => by
    simp only [matchSlots] at h
    split at h
    · rename_i a b ha hb
      cases h
      obtain ⟨h1, h2⟩ := match_mk (m := m) (pv := pv) p _ a ha (b ++ rest)
      rw [← List.append_assoc] at h1 h2
      simp only [mkSlots]
      rw [h1]
      refine matchSlots_mk tm l b hb _ rest (fun u => ?_)
      rw [nth_setn]
      split
      · rename_i hu; rw [← hu.1]; exact h2
      · exact h0 u
    · cases h

def HRen (m : NMap) (pv : Nat → Nat) (hp : THp) : List EP → THp → Prop
  | [], [] => True
  | e :: l, x :: r => (x.name = e.name ∧ x.ver = e.ver ∧ ∃ q u o, m.at e.name = some (q, u) ∧ objT hp q u = some o ∧ RenO m pv x.obj o) ∧ HRen m pv hp l r
  | _, _ => False

theorem matchHeap_mk {m : NMap} {pv : Nat → Nat} (hp : THp) : ∀ (l : List EP) (vs : List SigV), matchHeap m l hp = some vs → ∀ rest, HRen m pv hp l (mkH pv l (vs ++ rest))
  | [], vs, h, rest => by simp only [matchHeap] at h; cases h; trivial
  | e :: l, vs, h, rest => by
    simp only [matchHeap] at h
    split at h
    · rename_i q u hm
      split at h
      · rename_i o ho
        split at h
        · rename_i a b ha hb
          cases h
          obtain ⟨h1, h2⟩ := matchO_mk (m := m) (pv := pv) e.obj o a ha (b ++ rest)
          rw [← List.append_assoc] at h1 h2
          refine (⟨⟨rfl, rfl, q, u, o, hm, ho, h2⟩, ?_⟩ : HRen m pv hp (e :: l) (mkH pv (e :: l) (a ++ b ++ rest)))
          rw [h1]
          exact matchHeap_mk hp l b hb rest
        · cases h
      · cases h
    · cases h
end Go.Sx

namespace Go.Sx
theorem epOf_mem : ∀ (l : List EP) (b : Nat), (epOf l b).isSome = true → ∃ e ∈ l, e.name = b
  | [], b, h => by simp [epOf] at h
  | e :: l, b, h => by
    unfold epOf at h
    split at h
    · rename_i he; exact ⟨e, by simp, he⟩
    · obtain ⟨x, h1, h2⟩ := epOf_mem l b h
      exact ⟨x, by simp [h1], h2⟩

theorem HRen_find {m : NMap} {pv : Nat → Nat} {hp : THp} : ∀ (l : List EP) (r : THp), HRen m pv hp l r → ∀ b x, findT r b = some x → ∃ e ∈ l, e.name = b ∧ x.name = b ∧ x.ver = verOf l b ∧ e.ver = x.ver ∧ ∃ q u o, m.at b = some (q, u) ∧ objT hp q u = some o ∧ RenO m pv x.obj o
  | [], [], _, b, x, h => by simp [findT] at h
  | [], _ :: _, hr, _, _, _ => by simp [HRen] at hr
  | _ :: _, [], hr, _, _, _ => by simp [HRen] at hr
  | e :: l, y :: r, hr, b, x, h => by
    obtain ⟨⟨h1, h2, q, u, o, h3, h4, h5⟩, h6⟩ := hr
    unfold findT at h
    split at h
    · rename_i hy
      cases h
      refine ⟨e, by simp, by rw [← h1]; exact hy, hy, ?_, h2.symm, q, u, o, ?_, h4, h5⟩
      · unfold verOf; rw [if_pos (by rw [← h1]; exact hy)]; exact h2
      · rw [← hy, h1]; exact h3
    · rename_i hy
      obtain ⟨e', g1, g2, g3, g4, g5⟩ := HRen_find l r h6 b x h
      refine ⟨e', by simp [g1], g2, g3, ?_, g5⟩
      unfold verOf; rw [if_neg (by rw [← h1]; exact hy)]; exact g4
theorem HRen_some {m : NMap} {pv : Nat → Nat} {hp : THp} : ∀ (l : List EP) (r : THp), HRen m pv hp l r → ∀ e ∈ l, ∃ x, findT r e.name = some x
  | [], [], _, e, h => by simp at h
  | [], _ :: _, hr, _, _ => by simp [HRen] at hr
  | _ :: _, [], hr, _, _ => by simp [HRen] at hr
  | e0 :: l, y :: r, hr, e, h => by
    obtain ⟨⟨h1, h2, q, u, o, h3, h4, h5⟩, h6⟩ := hr
    unfold findT
    rcases List.mem_cons.1 h with rfl | h
    · rw [if_pos h1]; exact ⟨_, rfl⟩
    · obtain ⟨x, hx⟩ := HRen_some l r h6 e h
      split
      · exact ⟨_, rfl⟩
      · exact ⟨x, hx⟩

theorem nodup_spec {m : NMap} : ∀ (l : List EP) (seen : List Nat), nodupM m l seen = true → (∀ e ∈ l, ∃ q u, m.at e.name = some (q, u) ∧ q ∉ seen ∧ ((e.name < 100) = (q < 100)) ∧ (e.name < 100 → q = e.name ∧ (0 < e.ver ∨ u = 0))) ∧
    (∀ e ∈ l, ∀ e' ∈ l, ∀ q u u', m.at e.name = some (q, u) → m.at e'.name = some (q, u') → e.name = e'.name)
  | [], seen, h => ⟨fun e he => by simp at he, fun e he => by simp at he⟩
  | e0 :: l, seen, h => by
    unfold nodupM at h
    simp only at h
    split at h
    · rename_i q0 u0 hm
      simp only [Bool.and_eq_true, Bool.not_eq_true', Bool.or_eq_true, decide_eq_true_eq, beq_iff_eq] at h
      obtain ⟨⟨⟨h1, h2⟩, h3⟩, h4⟩ := h
      obtain ⟨i1, i2⟩ := nodup_spec l (q0 :: seen) h4
      refine ⟨fun e he => ?_, fun e he e' he' q u u' hq hq' => ?_⟩
      · rcases List.mem_cons.1 he with rfl | he
        · refine ⟨q0, u0, hm, by simpa using h1, by simpa using h2, fun hlt => ?_⟩
          rcases h3 with h3 | h3
          · omega
          · exact h3
        · obtain ⟨q, u, g1, g2, g3⟩ := i1 e he
          exact ⟨q, u, g1, fun hc => g2 (by simp [hc]), g3⟩
      · rcases List.mem_cons.1 he with h5 | he
        · rcases List.mem_cons.1 he' with h6 | he'
          · rw [h5, h6]
          · exfalso
            obtain ⟨q', u2, g1, g2, _⟩ := i1 e' he'
            rw [h5, hm] at hq
            cases hq
            rw [hq'] at g1
            cases g1
            exact g2 (by simp)
        · rcases List.mem_cons.1 he' with h6 | he'
          · exfalso
            obtain ⟨q', u2, g1, g2, _⟩ := i1 e he
            rw [h6, hm] at hq'
            cases hq'
            rw [hq] at g1
            cases g1
            exact g2 (by simp)
          · exact i2 e he e' he' q u u' hq hq'
    · cases h

theorem at_mem : ∀ (m : NMap) (b : Nat) (x : Nat × Nat), m.at b = some x → ∃ y ∈ m, y.1 = b
  | [], b, x, h => by simp [NMap.at] at h
  | (k, y) :: r, b, x, h => by
    unfold NMap.at at h
    split at h
    · rename_i hk; exact ⟨(k, y), by simp, hk⟩
    · obtain ⟨z, h1, h2⟩ := at_mem r b x h
      exact ⟨z, by simp [h1], h2⟩
theorem namesOk_mem (l : List EP) : ∀ (m : NMap), namesOk l m = true → ∀ y ∈ m, (epOf l y.1).isSome = true
  | [], _, y, h => by simp at h
  | x :: r, h, y, hy => by
    simp only [namesOk, Bool.and_eq_true] at h
    rcases List.mem_cons.1 hy with rfl | hy
    · exact h.1
    · exact namesOk_mem l r h.2 y hy
theorem paramsIn_mem (l : List EP) : ∀ (hp : THp), paramsIn l hp = true → ∀ b x, b < 100 → findT hp b = some x → (epOf l b).isSome = true
  | [], _, b, x, _, h => by simp [findT] at h
  | e :: r, h, b, x, hb, hx => by
    simp only [paramsIn, Bool.and_eq_true, Bool.or_eq_true, decide_eq_true_eq] at h
    unfold findT at hx
    split at hx
    · rename_i he
      rcases h.1 with h1 | h1
      · omega
      · rw [← he]; exact h1
    · exact paramsIn_mem l r h.2 b x hb hx

theorem RenO_holds {m : NMap} {pv : Nat → Nat} {ρ ρ' : Rho} (h : ∀ b b' u' y, m.at b = some (b', u') → ρ b' u' = some y → ρ' b (pv b) = some y) {val : Value} {own RO : Nat → Prop} {w : World} : ∀ {o o' : TObj}, RenO m pv o o' → holds ρ val own RO w (eraO o') → holds ρ' val own RO w (eraO o)
  | .cells l, .cells l', hr, ⟨g, arr, ty, h1, h2, h3, h4⟩ => ⟨g, arr, ty, h1, h2, DL.ren h l l' _ hr h3, h4⟩
  | .row rw' et ks xs, o', hr, hh => by
    simp only [RenO] at hr
    subst hr
    cases rw' <;> exact hh
  | .str s p, o', hr, hh => by
    simp only [RenO] at hr
    subst hr
    exact hh
  | .cells l, .row _ _ _ _, hr, _ => by simp [RenO] at hr
  | .cells l, .str _ _, hr, _ => by simp [RenO] at hr

theorem ren_weak {l : List EP} {m : NMap} {tm tm' : List SVal} {hp r : THp} (hlen : tm'.length = tm.length) (ht : ∀ t, Ren m (verOf l) (nth tm' t) (nth tm t)) (hh : HRen m (verOf l) hp l r) (hn : nodupM m l [] = true)
    (hin : paramsIn l hp = true) (hok : namesOk l m = true) : Weak tm (eraH hp) tm' (eraH r) := by
  refine ⟨hlen, fun gl B hB a w hr => ?_⟩
  obtain ⟨ρ, own, RO, H, hsz, ht0, hd, hle, hro, hadv⟩ := hr
  obtain ⟨n1, n2⟩ := nodup_spec l [] hn
  -- an entry of the template's, and the one that it is of
  have F : ∀ b x, findT r b = some x → x.name = b ∧ x.ver = verOf l b ∧ ∃ q u o, m.at b = some (q, u) ∧ objT hp q u = some o ∧ RenO m (verOf l) x.obj o ∧ (b < 100 → q = b ∧ (0 < x.ver ∨ u = 0)) := by
    intro b x hx
    obtain ⟨e, g1, g2, g3, g4, g5, q, u, o, g6, g7, g8⟩ := HRen_find l r hh b x hx
    refine ⟨g3, g4, q, u, o, g6, g7, g8, fun hb => ?_⟩
    obtain ⟨q', u', k1, k2, k3, k4⟩ := n1 e g1
    rw [g2, g6] at k1
    cases k1
    rw [g2] at k4
    have := k4 hb
    rw [g5] at this
    exact this
  have inj : ∀ b b' x x' q u u', findT r b = some x → findT r b' = some x' → m.at b = some (q, u) → m.at b' = some (q, u') → b = b' := by
    intro b b' x x' q u u' hx hx' hq hq'
    obtain ⟨e, g1, g2, _⟩ := HRen_find l r hh b x hx
    obtain ⟨e', g1', g2', _⟩ := HRen_find l r hh b' x' hx'
    have := n2 e g1 e' g1' q u u' (by rw [g2]; exact hq) (by rw [g2']; exact hq')
    rw [g2, g2'] at this
    exact this
  have ex : ∀ b x, m.at b = some x → ∃ y, findT r b = some y := by
    intro b x hx
    obtain ⟨y, h1, h2⟩ := at_mem m b x hx
    obtain ⟨e, h3, h4⟩ := epOf_mem l _ (namesOk_mem l m hok y h1)
    obtain ⟨z, hz⟩ := HRen_some l r hh e h3
    rw [h4, h2] at hz
    exact ⟨z, hz⟩
  have old : ∀ q u o, objT hp q u = some o → ∃ e, findE (eraH hp) q = some e ∧ e.ver = u ∧ e.obj = eraO o := by
    intro q u o ho
    unfold objT at ho
    split at ho
    · rename_i e he
      split at ho
      · rename_i hv
        cases ho
        exact ⟨eraE e, findT_some he, hv, rfl⟩
      · cases ho
    · cases ho
  let ρ' : Rho := fun b u => match findT r b with
    | some x => if u = x.ver then (match m.at b with
      | some (q, v) => ρ q v
      | none => none) else if b < 100 ∧ u = 0 then ρ b 0 else none
    | none => none
  let own' : Foot := fun b => match findT r b with
    | some _ => (match m.at b with
      | some (q, _) => own q
      | none => fun _ => False)
    | none => fun _ => False
  have hren : ∀ b b' u' y, m.at b = some (b', u') → ρ b' u' = some y → ρ' b (verOf l b) = some y := by
    intro b b' u' y hm hy
    obtain ⟨x, hx⟩ := ex b _ hm
    simp only [ρ', hx, (F b x hx).2.1, if_true, hm]
    exact hy
  refine ⟨ρ', own', RO, ⟨?_, ?_, ?_, ?_, ?_, ?_, H.rofr, H.fr⟩, by rw [hsz, hlen], fun t htn => ?_, hd, ?_, hro, hadv⟩
  · intro b e he
    rw [find_era] at he
    cases hx : findT r b with
    | none => rw [hx] at he; cases he
    | some x =>
      rw [hx] at he
      simp only [Option.map_some, Option.some.injEq] at he
      subst he
      obtain ⟨f1, f2, q, u, o, f3, f4, f5, _⟩ := F b x hx
      obtain ⟨e0, o1, o2, o3⟩ := old q u o f4
      obtain ⟨_, y, hy, hhold⟩ := H.ent q e0 o1
      rw [o2] at hy
      rw [o3] at hhold
      refine ⟨f1, y, ?_, ?_⟩
      · show ρ' b x.ver = some y
        rw [f2]
        exact hren b q u y f3 hy
      · show holds ρ' y (own' b) RO w (eraO x.obj)
        have : own' b = own q := by simp only [own', hx, f3]
        rw [this]
        exact RenO_holds hren f5 hhold
  · intro b hb k
    rw [find_era] at hb
    have hx : findT r b = none := by simpa using hb
    simp [own', hx]
  · intro b u hne
    unfold nextOf
    rw [find_era]
    cases hx : findT r b with
    | none => simp [ρ', hx] at hne
    | some x =>
      simp only [ρ', hx] at hne
      simp only [Option.map_some, eraE]
      by_cases hu : u = x.ver
      · omega
      · rw [if_neg hu] at hne
        by_cases hb : b < 100 ∧ u = 0
        · omega
        · rw [if_neg hb] at hne; exact absurd rfl hne
  · intro b u y hy
    cases hx : findT r b with
    | none => simp [ρ', hx] at hy
    | some x =>
      simp only [ρ', hx] at hy
      split at hy
      · split at hy
        · exact H.one _ _ _ hy
        · cases hy
      · split at hy
        · exact H.one _ _ _ hy
        · cases hy
  · intro b b' k hb hb'
    cases hx : findT r b with
    | none => simp [own', hx] at hb
    | some x =>
      cases hx' : findT r b' with
      | none => simp [own', hx'] at hb'
      | some x' =>
        obtain ⟨_, _, q, u, o, f3, _⟩ := F b x hx
        obtain ⟨_, _, q', u', o', f3', _⟩ := F b' x' hx'
        simp only [own', hx, f3] at hb
        simp only [own', hx', f3'] at hb'
        have := H.disj _ _ _ hb hb'
        subst this
        exact inj b b' x x' q u u' hx hx' f3 f3'
  · intro b k hb
    cases hx : findT r b with
    | none => simp [own', hx] at hb
    | some x =>
      obtain ⟨_, _, q, u, o, f3, _⟩ := F b x hx
      simp only [own', hx, f3] at hb
      exact H.ro _ _ hb
  · rw [hlen] at htn
    exact D.ren hren _ _ _ (ht t) (ht0 t htn)
  · intro b u y hy
    obtain ⟨hb, hu⟩ := hB b u (by rw [hy]; simp)
    subst hu
    have hy' := hle _ _ _ hy
    have hdom := H.dom b 0 (by rw [hy']; simp)
    unfold nextOf at hdom
    rw [find_era] at hdom
    cases hq : findT hp b with
    | none => rw [hq] at hdom; simp at hdom
    | some x0 =>
      obtain ⟨e, g1, g2⟩ := epOf_mem l b (paramsIn_mem l hp hin b x0 hb hq)
      obtain ⟨x, hx⟩ := HRen_some l r hh e g1
      rw [g2] at hx
      obtain ⟨_, f2, q, u, o, f3, f4, f5, f6⟩ := F b x hx
      obtain ⟨rfl, f7⟩ := f6 hb
      show ρ' q 0 = some y
      simp only [ρ', hx, f3]
      by_cases h0 : 0 = x.ver
      · rw [if_pos h0]
        have : u = 0 := by omega
        rw [this]; exact hy'
      · rw [if_neg h0, if_pos (by simp [hb])]
        exact hy'

theorem nth_repl : ∀ (n t : Nat), nth (List.replicate n SVal.undef) t = .undef
  | 0, t => by cases t <;> rfl
  | n + 1, 0 => rfl
  | n + 1, t + 1 => nth_repl n t
theorem mkSlots_length (pv : Nat → Nat) : ∀ (l : List (Nat × SP)) (tm : List SVal) (r : List SigV), (mkSlots pv l tm r).1.length = tm.length
  | [], tm, r => rfl
  | (t, p) :: l, tm, r => by simp only [mkSlots]; rw [mkSlots_length pv l, setn_length]

theorem unSt_weak {P : Pat} {tm : List SVal} {hp : THp} {v : Vars P.vars} (h : unSt P tm hp = some v) : Weak tm (eraH hp) (mkTm P v) (eraH (mkHp P v)) := by
  unfold unSt at h
  simp only at h
  split at h
  · rename_i hc
    simp only [Bool.and_eq_true, decide_eq_true_eq] at hc
    obtain ⟨⟨⟨c1, c2⟩, c3⟩, c4⟩ := hc
    split at h
    · rename_i a b ha hb
      have hv := Tup.toL_ofL _ _ _ h
      have w1 := nilSlots_weak P P.slots tm hp
      have w2 := bindHeap_weak P (nilSlots P P.slots tm hp).1 P.heap (nilSlots P P.slots tm hp).2 (paramMap (nilSlots P P.slots tm hp).2 P.heap ++ bindSlots P.slots (nilSlots P P.slots tm hp).1)
      have w3 := freezeAll_weak (nilSlots P P.slots tm hp).1 (bindHeap P P.heap (nilSlots P P.slots tm hp).2 (paramMap (nilSlots P P.slots tm hp).2 P.heap ++ bindSlots P.slots (nilSlots P P.slots tm hp).1)).2 P.heap (bindHeap P P.heap (nilSlots P P.slots tm hp).2 (paramMap (nilSlots P P.slots tm hp).2 P.heap ++ bindSlots P.slots (nilSlots P P.slots tm hp).1)).1
      refine (w1.trans (w2.trans w3)).trans ?_
      obtain ⟨m1, m2⟩ := matchSlots_mk (pv := verOf P.heap) _ P.slots a ha (List.replicate P.size .undef) b (fun t => by rw [nth_repl]; exact trivial)
      have m3 := matchHeap_mk (pv := verOf P.heap) _ P.heap b hb []
      rw [List.append_nil] at m3
      refine ren_weak (l := P.heap) ?_ ?_ ?_ c1 c2 c3
      · unfold mkTm
        rw [mkSlots_length, List.length_replicate, c4]
      · intro t
        unfold mkTm
        rw [hv]
        exact m2 t
      · unfold mkHp
        rw [hv, m1]
        exact m3
    · cases h
  · cases h
end Go.Sx

namespace Go.Sx
def annOK (c : TCtx) : Code → Prop
  | .seq a b => annOK c a ∧ annOK c b ∧ match c.cuts (keyOf b) with
    | some q => ∀ v, q.fn v = (pieceT c q.pat q.exits b v).run
    | none => True
  | .cond _ a b => annOK c a ∧ annOK c b
  | .block _ b => annOK c b
  | .loop b => annOK c b ∧ match c.loops (keyOf b) with
    | some q => ∀ v, q.body v = (roundT c q.pat q.exits b v).run
    | none => True
  | _ => True

theorem sameEx_eq {a b : Ex} (h : sameEx a b = true) : a = b := by
  cases a <;> cases b <;> simp_all [sameEx]

theorem leave_ok {Y : Type} : ∀ (l : Exits) (f : ExT l → Y) (e : Ex) (tm : List SVal) (hp : THp) (o : Y), (leaveAt l f e tm hp).run = some o →
    ∃ x : ExT l, o = f x ∧ ∃ tm2 hp2, Weak tm (eraH hp) tm2 (eraH hp2) ∧ ∀ {X : Type} (K : TK X), (goOn K l x).run = (K e tm2 hp2).run
  | [], f, e, tm, hp, o, h => by simp [leaveAt, Tm.run] at h
  | [e0], f, e, tm, hp, o, h => by
    simp only [leaveAt] at h
    split at h
    · rename_i he
      have := sameEx_eq he
      subst this
      split at h
      · rename_i v hv
        simp only [Tm.run, Option.some.injEq] at h
        exact ⟨v, h.symm, _, _, unSt_weak hv, fun K => rfl⟩
      · simp [Tm.run] at h
    · simp [Tm.run] at h
  | e0 :: e2 :: r, f, e, tm, hp, o, h => by
    have rest : (leaveAt (e2 :: r) (fun x => f (.inr x)) e tm hp).run = some o → ∃ x : ExT (e0 :: e2 :: r), o = f x ∧ ∃ tm2 hp2, Weak tm (eraH hp) tm2 (eraH hp2) ∧ ∀ {X : Type} (K : TK X), (goOn K (e0 :: e2 :: r) x).run = (K e tm2 hp2).run := by
      intro h
      obtain ⟨x, h1, tm2, hp2, h2, h3⟩ := leave_ok (e2 :: r) _ e tm hp o h
      exact ⟨.inr x, h1, tm2, hp2, h2, fun K => h3 K⟩
    simp only [leaveAt] at h
    split at h
    · rename_i he
      have := sameEx_eq he
      subst this
      split at h
      · rename_i v hv
        simp only [Tm.run, Option.some.injEq] at h
        exact ⟨.inl v, h.symm, _, _, unSt_weak hv, fun K => rfl⟩
      · exact rest h
    · exact rest h

theorem tvC_sound {P : Program} {c : TCtx} (hT : TOK P c) (hm : P.follows .mixedOrders = true) {B : Base c.gl} (hB : ∀ b u, B.ρ b u ≠ none → b < 100 ∧ u = 0) : ∀ (code : Code), annOK c code → ∀ (X : Type) (tm : List SVal) (hp : THp) (K : TK X) (out : X) (Q : Exit → Act → World → Prop) (a : Act) (w : World),
    (tvC c code tm hp K).run = some out → RelL B tm (eraH hp) a w → (∀ e tm' hp' a' w', (K e tm' hp').run = some out → RelL B tm' (eraH hp') a' w' → Q (toExit e) a' w') → code.wp P Q a w := by
  intro code
  induction code with
  | skip => intro _ X tm hp K out Q a w h hr hq; exact wp_skip (hq .normal tm hp a w h hr)
  | region id ops draw =>
    intro _ X tm hp K out Q a w h hr hq
    refine evR_sound hT.ctx hm (tvR_ok h) hr ?_
    rintro tm' hp0 a' w' hl ⟨hp', rfl, hk⟩ hr'
    exact hq .normal tm' hp' a' w' hk hr'
  | seq x y ihx ihy =>
    intro hann X tm hp K out Q a w h hr hq
    obtain ⟨an1, an2, an3⟩ := hann
    simp only [tvC] at h
    refine wp_seq (ihx an1 X tm hp _ out _ a w h hr ?_)
    intro e tm' hp' a' w' hk hr'
    cases e with
    | normal =>
      simp only [tThen] at hk
      show y.wp P Q a' w'
      split at hk
      · rename_i q hqq
        rw [hqq] at an3
        split at hk
        · rename_i v hv
          simp only [Tm.run] at hk
          cases hf : q.fn v with
          | none => rw [hf] at hk; simp at hk
          | some z =>
            rw [hf] at hk
            simp only [Option.bind_some] at hk
            have h1 := an3 v
            rw [hf] at h1
            refine ihy an2 _ _ _ _ z Q a' w' h1.symm ((unSt_weak hv).2 _ B hB _ _ hr') ?_
            intro e tm2 hp2 a2 w2 hk2 hr2
            obtain ⟨z', e1, tm3, hp3, hw, hg⟩ := leave_ok _ _ _ _ _ _ hk2
            simp only [id] at e1
            subst e1
            rw [hg K] at hk
            exact hq e tm3 hp3 a2 w2 hk (hw.2 _ B hB _ _ hr2)
        · simp [Tm.run] at hk
      · exact ihy an2 X tm' hp' K out Q a' w' hk hr' hq
    | exit i => exact hq (.exit i) tm' hp' a' w' hk hr'
    | ret => exact hq .ret tm' hp' a' w' hk hr'
  | cond x p q ihp ihq =>
    intro hann X tm hp K out Q a w h hr hq
    obtain ⟨an1, an2⟩ := hann
    simp only [tvC, tCond] at h
    split at h
    · rename_i t
      split at h
      · rename_i b hb
        have hlt : t < tm.length := by
          by_cases hlt : t < tm.length
          · exact hlt
          · rw [nth_ge tm t (Nat.le_of_not_lt hlt)] at hb; cases hb
        have he : a.eval (.tmp t) = .bool b := by
          obtain ⟨ρ, own, RO, H, hsz, ht, hd, h1, h2, h3⟩ := hr
          have := ht t hlt
          rw [hb] at this
          exact this
        obtain ⟨g1, g2⟩ := run_ite h
        refine wp_cond_split he (fun hbt => ?_) (fun hbf => ?_)
        · have h1 := g1 hbt
          rw [← hbt, ← hb, setn_self] at h1
          exact ihp an1 X tm hp K out Q a w h1 hr hq
        · have h1 := g2 hbf
          rw [← hbf, ← hb, setn_self] at h1
          exact ihq an2 X tm hp K out Q a w h1 hr hq
      · simp [Tm.run] at h
    · rename_i b
      refine wp_cond_split (t := b) rfl (fun hbt => ?_) (fun hbf => ?_)
      · subst hbt; exact ihp an1 X tm hp K out Q a w h hr hq
      · subst hbf; exact ihq an2 X tm hp K out Q a w h hr hq
    · simp [Tm.run] at h
  | block id b ih =>
    intro hann X tm hp K out Q a w h hr hq
    simp only [tvC] at h
    refine wp_block (ih hann X tm hp _ out _ a w h hr ?_)
    intro e tm' hp' a' w' hk hr'
    cases e with
    | normal => exact hq .normal tm' hp' a' w' hk hr'
    | exit i =>
      simp only [tIn] at hk
      simp only [toExit, Exit.inBlock]
      split at hk
      · rename_i hi
        rw [if_pos hi]
        exact hq .normal tm' hp' a' w' hk hr'
      · rename_i hi
        rw [if_neg hi]
        exact hq (.exit i) tm' hp' a' w' hk hr'
    | ret => exact hq .ret tm' hp' a' w' hk hr'
  | loop b ih =>
    intro hann X tm hp K out Q a w h hr hq
    obtain ⟨an1, an2⟩ := hann
    simp only [tvC] at h
    split at h
    · rename_i q hqq
      rw [hqq] at an2
      split at h
      · rename_i v hv
        simp only [Tm.run] at h
        cases hf : runLoop q.body v with
        | none => rw [hf] at h; simp at h
        | some z =>
          rw [hf] at h
          simp only [Option.bind_some] at h
          obtain ⟨n, hn⟩ := iter_of hf
          refine wp_loop_rounds n ?_
          have hr0 := (unSt_weak hv).2 _ B hB _ _ hr
          clear hr hv hf
          induction n generalizing v a w with
          | zero => simp [iter] at hn
          | succ n ihn =>
            rw [rounds_succ]
            simp only [iter] at hn
            cases hbv : q.body v with
            | none => rw [hbv] at hn; cases hn
            | some s =>
              rw [hbv] at hn
              have h1 := an2 v
              rw [hbv] at h1
              refine ih an1 _ _ _ _ s _ a w h1.symm hr0 ?_
              intro e tm' hp' a' w' hk hr'
              cases e with
              | normal =>
                simp only at hk
                split at hk
                · rename_i v' hv'
                  simp only [Tm.run, Option.some.injEq] at hk
                  subst hk
                  exact ihn a' w' v' hn ((unSt_weak hv').2 _ B hB _ _ hr')
                · simp [Tm.run] at hk
              | exit i =>
                obtain ⟨z', e1, tm3, hp3, hw, hg⟩ := leave_ok _ _ _ _ _ _ hk
                subst e1
                simp only [Option.some.injEq] at hn
                subst hn
                rw [hg K] at h
                exact hq (.exit i) tm3 hp3 a' w' h (hw.2 _ B hB _ _ hr')
              | ret =>
                obtain ⟨z', e1, tm3, hp3, hw, hg⟩ := leave_ok _ _ _ _ _ _ hk
                subst e1
                simp only [Option.some.injEq] at hn
                subst hn
                rw [hg K] at h
                exact hq .ret tm3 hp3 a' w' h (hw.2 _ B hB _ _ hr')
      · simp [Tm.run] at h
    · refine wp_loop_rounds c.fuel ?_
      generalize c.fuel = n at h
      induction n generalizing tm hp a w with
      | zero => simp [loopN, Tm.run] at h
      | succ n ihn =>
        rw [rounds_succ]
        simp only [loopN] at h
        refine ih an1 X tm hp _ out _ a w h hr ?_
        intro e tm' hp' a' w' hk hr'
        cases e with
        | normal => exact ihn tm' hp' a' w' hr' hk
        | exit i => exact hq (.exit i) tm' hp' a' w' hk hr'
        | ret => exact hq .ret tm' hp' a' w' hk hr'
  | exit id => intro _ X tm hp K out Q a w h hr hq; exact wp_exit (hq (.exit id) tm hp a w h hr)
  | ret => intro _ X tm hp K out Q a w h hr hq; exact wp_ret (hq .ret tm hp a w h hr)
  | _ => intros; rename_i h _ _; simp [tvC, Tm.run] at h
end Go.Sx

namespace Go.Sx
theorem resOf_congr {c c' : Ctx} (h : c.ty = c'.ty) (tm : List SVal) (hp : HpF) : ∀ rs, resOf c tm hp rs = resOf c' tm hp rs
  | [] => rfl
  | .tmp t :: r => by simp only [resOf, resOf_congr h tm hp r]
  | .cell a t :: r => by simp only [resOf, h, resOf_congr h tm hp r]

theorem resB_ok {c : TCtx} {u : Ctx} (hu : u.ty = c.ty) {tm : List SVal} {hp : THp} : ∀ (rs : List ResultVar) (p : Prop) (vs : List SVal), resOf u tm (findE (eraH hp)) rs = some (p, vs) → resB c tm hp rs = true → p
  | [], p, vs, h, hb => by
    simp only [resOf, Option.some.injEq, Prod.mk.injEq] at h
    rw [← h.1]; trivial
  | .tmp t :: r, p, vs, h, hb => by
    simp only [resOf] at h
    simp only [resB, Bool.and_eq_true, decide_eq_true_eq] at hb
    split at h
    · rename_i p' vs' h'
      simp only [Option.some.injEq, Prod.mk.injEq] at h
      rw [← h.1]
      exact ⟨hb.1, resB_ok hu r p' vs' h' hb.2⟩
    · cases h
  | .cell a t :: r, p, vs, h, hb => by
    simp only [resOf] at h
    simp only [resB, Bool.and_eq_true] at hb
    split at h
    · rename_i i p' vs' hi h'
      split at h
      · rename_i q x hl
        simp only [Option.some.injEq, Prod.mk.injEq] at h
        rw [← h.1]
        refine ⟨?_, resB_ok hu r p' vs' h' hb.2⟩
        have hb1 := hb.1
        rw [← hu, hi] at hb1
        simp only at hb1
        unfold loadP at hl
        split at hl
        · rename_i b u' off hn
          simp only [hn] at hb1
          split at hb1
          · rename_i cs hcs
            rw [objT_map hcs] at hl
            simp only [eraO] at hl
            split at hl
            · simp only [Option.some.injEq, Prod.mk.injEq] at hl
              rw [← hl.1]
              simpa using hb1
            · cases hl
          · cases hb1
        · cases hl
      · cases h
    · cases h

theorem exit_era (acc : List Ent) (m : Nat) : ∀ (l : List TEnt) (j : Nat), eraH (exitT acc m j l) = exitEnts acc m j (eraH l)
  | [], j => rfl
  | e :: r, j => by
    have := exit_era acc m r (j + 1)
    simp only [eraH] at this
    simp only [exitT, eraH, List.map_cons, exitEnts, eraE, mapT_era, this]

theorem exitEnts_find (acc : List Ent) (m : Nat) : ∀ (l : List Ent) (j : Nat), (∀ b, b < j → findE (exitEnts acc m j l) b = none) ∧ ∀ (f : HpF) (b : Nat), putsF f (exitEnts acc m j l) b = match findE (exitEnts acc m j l) b with
    | some e => some e
    | none => f b
  | [], j => ⟨fun b _ => rfl, fun f b => rfl⟩
  | e :: r, j => by
    obtain ⟨h1, h2⟩ := exitEnts_find acc m r (j + 1)
    refine ⟨fun b hb => ?_, fun f b => ?_⟩
    · simp only [exitEnts, findE]
      rw [if_neg (by omega)]
      exact h1 b (by omega)
    · simp only [exitEnts, putsF, findE]
      rw [h2]
      by_cases hj : j = b
      · subst hj
        rw [h1 j (by omega)]
        simp
      · simp only [if_neg hj]

theorem findT_name' {hp : THp} : ∀ b e, findE (eraH hp) b = some e → e.name = b := fun b e he => by
  rw [find_era] at he
  cases hf : findT hp b with
  | none => rw [hf] at he; cases he
  | some x =>
    rw [hf] at he
    simp only [Option.map_some, Option.some.injEq] at he
    rw [← he]
    exact findT_name hf

theorem exitB_ok {c : TCtx} {rs : List ResultVar} {m : Nat} {tm : List SVal} {hp : THp} (h : exitB c rs m tm hp = true) {e : Ex} (he : ∀ i, e ≠ .exit i) :
    exitK (unC c) rs m (resT c rs m tm hp).1 (eraH (resT c rs m tm hp).2) e tm (eraH hp) := by
  unfold exitB at h
  simp only [Bool.and_eq_true] at h
  obtain ⟨h1, h2⟩ := h
  split at h2
  · rename_i p vs hres
    split at h2
    · rename_i acc hacc
      split at h2
      · rename_i tacc ht
        have hin := reach_in findT_name' 60 _ [] acc hacc (by simp)
        have hera := pick_era acc tacc ht hin
        have hres' : resOf (unC c) tm (findE (eraH hp)) rs = some (p, vs) := by rw [← hres]; exact resOf_congr (c := unC c) (c' := bareC c) rfl _ _ rs
        have hp' := resB_ok (u := unC c) rfl rs p vs hres' h1
        have hT : resT c rs m tm hp = (resTup (mapRL (exitMap acc m) vs), exitT acc m 0 tacc) := by
          unfold resT
          simp only [hres, hacc, ht]
        rw [hT]
        have fin : p ∧ firstAre m 0 acc = true ∧ resTup (mapRL (exitMap acc m) vs) = resTup (mapRL (exitMap acc m) vs) ∧ exitEnts acc m 0 acc = eraH (exitT acc m 0 tacc) := ⟨hp', h2, rfl, by rw [exit_era, hera]⟩
        cases e with
        | exit i => exact absurd rfl (he i)
        | normal => simp only [exitK, hres', hacc]; exact ⟨fin.1, fin.2.1, trivial, fin.2.2.2⟩
        | ret => simp only [exitK, hres', hacc]; exact ⟨fin.1, fin.2.1, trivial, fin.2.2.2⟩
      · cases h2
    · cases h2
  · cases h2

theorem exitB_puts {c : TCtx} {rs : List ResultVar} {ents : List Ent} {tm : List SVal} {hp : THp} (h : exitB c rs ents.length tm hp = true) (hents : ∀ b, (findE ents b).isSome ↔ b < ents.length) :
    putsF (findE ents) (eraH (resT c rs ents.length tm hp).2) = findE (eraH (resT c rs ents.length tm hp).2) := by
  unfold exitB at h
  simp only [Bool.and_eq_true] at h
  obtain ⟨h1, h2⟩ := h
  split at h2
  · rename_i p vs hres
    split at h2
    · rename_i acc hacc
      split at h2
      · rename_i tacc ht
        have hin := reach_in findT_name' 60 _ [] acc hacc (by simp)
        have hera := pick_era acc tacc ht hin
        have hT : resT c rs ents.length tm hp = (resTup (mapRL (exitMap acc ents.length) vs), exitT acc ents.length 0 tacc) := by
          unfold resT
          simp only [hres, hacc, ht]
        rw [hT]
        show putsF (findE ents) (eraH (exitT acc ents.length 0 tacc)) = findE (eraH (exitT acc ents.length 0 tacc))
        rw [exit_era, hera]
        funext b
        rw [(exitEnts_find acc ents.length acc 0).2]
        cases hf : findE (exitEnts acc ents.length 0 acc) b with
        | some e => rfl
        | none =>
          have hnl : ¬ b < ents.length := by
            intro hb
            obtain ⟨e, g1, _⟩ := first_at ents.length 0 acc h2 b hb
            rw [findE_exit] at hf
            simp only [Nat.not_lt_zero, if_false, Nat.sub_zero, Option.map_eq_none_iff] at hf
            rw [hf] at g1
            cases g1
          cases hq : findE ents b with
          | none => rfl
          | some e => exact absurd ((hents b).1 (by rw [hq]; rfl)) hnl
      · cases h2
    · cases h2
  · cases h2

theorem args_match {m : NMap} (n : Nat) : ∀ (l : List (Nat × SP)) (args pre : List SVal) (vs : List SigV), matchArgs pre.length l args m = some vs → matchSlots m l (pre ++ args ++ List.replicate n .undef) = some vs
  | [], args, pre, vs, h => by
    cases args with
    | nil => simp only [matchArgs] at h; cases h; rfl
    | cons x r => simp [matchArgs] at h
  | (t, p) :: l, [], pre, vs, h => by simp [matchArgs] at h
  | (t, p) :: l, x :: r, pre, vs, h => by
    simp only [matchArgs] at h
    split at h
    · rename_i ht
      subst ht
      split at h
      · rename_i a b ha hb
        cases h
        have hnth : ∀ (pre : List SVal) (s : List SVal), nth (pre ++ x :: s) pre.length = x := by
          intro pre
          induction pre with
          | nil => intro s; rfl
          | cons y q ih => intro s; exact ih s
        have ih := args_match n l r (pre ++ [x]) b (by rw [List.length_append]; exact hb)
        have e1 : pre ++ [x] ++ r = pre ++ x :: r := by simp
        rw [e1] at ih
        simp only [matchSlots]
        rw [List.append_assoc, List.cons_append, hnth, ha]
        rw [List.append_assoc, List.cons_append] at ih
        rw [ih]
      · cases h
    · cases h

theorem idMap_at : ∀ (l : List EP) (b : Nat), (∃ e ∈ l, e.name = b) → (idMap l).at b = some (b, 0)
  | [], b, h => by obtain ⟨e, he, _⟩ := h; simp at he
  | e :: l, b, h => by
    unfold idMap
    simp only [List.map_cons, NMap.at]
    split
    · rename_i hb; rw [hb]
    · rename_i hb
      refine idMap_at l b ?_
      obtain ⟨x, h1, h2⟩ := h
      rcases List.mem_cons.1 h1 with rfl | h1
      · exact absurd h2 hb
      · exact ⟨x, h1, h2⟩

def Aligned : List EP → List TEnt → Prop
  | [], [] => True
  | p :: l, e :: r => (p.name = e.name ∧ e.ver = 0) ∧ Aligned l r
  | _, _ => False
theorem ents_aligned {m : NMap} : ∀ (l : List EP) (ents : List TEnt) (vs : List SigV), matchEnts l ents m = some vs → Aligned l ents
  | [], [], _, _ => trivial
  | [], _ :: _, _, h => by simp [matchEnts] at h
  | _ :: _, [], _, h => by simp [matchEnts] at h
  | p :: l, e :: r, vs, h => by
    simp only [matchEnts] at h
    split at h
    · rename_i hc
      split at h
      · rename_i a b ha hb
        exact ⟨hc, ents_aligned l r b hb⟩
      · cases h
    · cases h
theorem aligned_length : ∀ (l : List EP) (ents : List TEnt), Aligned l ents → ents.length = l.length
  | [], [], _ => rfl
  | [], _ :: _, h => h.elim
  | _ :: _, [], h => h.elim
  | p :: l, e :: r, h => by simp [aligned_length l r h.2]
theorem aligned_params : ∀ (l0 l : List EP) (ents : List TEnt), (∀ e ∈ l, e ∈ l0) → Aligned l ents → (∀ e ∈ l, (epOf l0 e.name).isSome = true) → paramsIn l0 ents = true
  | l0, [], [], _, _, _ => rfl
  | l0, [], _ :: _, _, h, _ => h.elim
  | l0, _ :: _, [], _, h, _ => h.elim
  | l0, p :: l, e :: r, hs, h, hn => by
    simp only [paramsIn, Bool.and_eq_true, Bool.or_eq_true]
    refine ⟨.inr ?_, aligned_params l0 l r (fun e he => hs e (by simp [he])) h.2 (fun e he => hn e (by simp [he]))⟩
    rw [← h.1.1]
    exact hn p (by simp)
theorem ents_match {m : NMap} (hp : THp) : ∀ (l : List EP) (ents : List TEnt) (vs : List SigV), matchEnts l ents m = some vs → (∀ e ∈ l, m.at e.name = some (e.name, 0)) → (∀ x ∈ ents, findT hp x.name = some x) → matchHeap m l hp = some vs
  | [], [], vs, h, _, _ => by simp only [matchEnts] at h; cases h; rfl
  | [], _ :: _, _, h, _, _ => by simp [matchEnts] at h
  | _ :: _, [], _, h, _, _ => by simp [matchEnts] at h
  | p :: l, e :: r, vs, h, hm, hf => by
    simp only [matchEnts] at h
    split at h
    · rename_i hc
      split at h
      · rename_i a b ha hb
        cases h
        have ih := ents_match hp l r b hb (fun e he => hm e (by simp [he])) (fun x hx => hf x (by simp [hx]))
        have h1 := hm p (by simp)
        have h2 := hf e (by simp)
        simp only [matchHeap, h1]
        have h3 : objT hp p.name 0 = some e.obj := by
          unfold objT
          rw [hc.1, h2]
          simp only [hc.2, if_true]
        rw [h3]
        simp only [ha, ih]
      · cases h
    · cases h
theorem aligned_find : ∀ (l : List EP) (ents : List TEnt) (seen : List Nat) (m : NMap), Aligned l ents → (∀ e ∈ l, m.at e.name = some (e.name, 0)) → nodupM m l seen = true → (∀ x ∈ ents, x.name ∉ seen) ∧ ∀ x ∈ ents, findT ents x.name = some x
  | [], [], seen, m, _, _, _ => ⟨by simp, by simp⟩
  | [], _ :: _, _, _, h, _, _ => h.elim
  | _ :: _, [], _, _, h, _, _ => h.elim
  | p :: l, e :: r, seen, m, h, hm, hn => by
    unfold nodupM at hn
    simp only [hm p (by simp), Bool.and_eq_true, Bool.not_eq_true'] at hn
    obtain ⟨⟨⟨h1, h2⟩, h3⟩, h4⟩ := hn
    obtain ⟨i1, i2⟩ := aligned_find l r (p.name :: seen) m h.2 (fun e he => hm e (by simp [he])) h4
    have hpe := h.1.1
    refine ⟨fun x hx => ?_, fun x hx => ?_⟩
    · rcases List.mem_cons.1 hx with rfl | hx
      · rw [← hpe]; simpa using h1
      · have := i1 x hx
        simp only [List.mem_cons, not_or] at this
        exact this.2
    · rcases List.mem_cons.1 hx with rfl | hx
      · simp [findT]
      · have := i1 x hx
        simp only [List.mem_cons, not_or] at this
        unfold findT
        rw [if_neg (fun hc => this.1 (by rw [← hc, hpe]))]
        exact i2 x hx

theorem epOf_self : ∀ (l : List EP) (e : EP), e ∈ l → (epOf l e.name).isSome = true
  | x :: l, e, h => by
    unfold epOf
    split
    · rfl
    · rename_i hx
      rcases List.mem_cons.1 h with rfl | h
      · exact absurd rfl hx
      · exact epOf_self l e h

theorem entry_weak {P : Pat} (hP : entryB P = true) {args : List SVal} {ents : List TEnt} {v : Vars P.vars} (h : unCall P args ents = some v) (n : Nat) (hn : args.length + n = P.size) :
    Weak (args ++ List.replicate n .undef) (eraH ents) (mkTm P v) (eraH (mkHp P v)) ∧ ents.length = P.heap.length := by
  unfold entryB at hP
  simp only [Bool.and_eq_true, decide_eq_true_eq] at hP
  obtain ⟨⟨⟨p1, p2⟩, p3⟩, p4⟩ := hP
  unfold unCall at h
  split at h
  · rename_i a b ha hb
    have hv := Tup.toL_ofL _ _ _ h
    have hal := ents_aligned _ _ _ hb
    have hid : ∀ e ∈ P.heap, (idMap P.heap).at e.name = some (e.name, 0) := fun e he => idMap_at _ _ ⟨e, he, rfl⟩
    obtain ⟨_, hfind⟩ := aligned_find _ _ [] _ hal hid p1
    have hs := args_match n P.slots args [] a ha
    rw [List.nil_append] at hs
    have hh := ents_match ents P.heap ents b hb hid hfind
    obtain ⟨m1, m2⟩ := matchSlots_mk (pv := verOf P.heap) _ P.slots a hs (List.replicate P.size .undef) b (fun t => by rw [nth_repl]; exact trivial)
    have m3 := matchHeap_mk (pv := verOf P.heap) _ P.heap b hh []
    rw [List.append_nil] at m3
    refine ⟨ren_weak (l := P.heap) ?_ ?_ ?_ p1 (aligned_params P.heap P.heap ents (fun e he => he) hal (fun e he => epOf_self _ e he)) p2, aligned_length _ _ hal⟩
    · unfold mkTm
      rw [mkSlots_length, List.length_replicate, List.length_append, List.length_replicate, hn]
    · intro t
      unfold mkTm
      rw [hv]
      exact m2 t
    · unfold mkHp
      rw [hv, m1]
      exact m3
  · cases h

theorem unCall_length {P : Pat} {args : List SVal} {ents : List TEnt} {v : Vars P.vars} (h : unCall P args ents = some v) : args.length = P.slots.length := by
  unfold unCall at h
  split at h
  · rename_i a b ha hb
    have key : ∀ (l : List (Nat × SP)) (args : List SVal) (i : Nat) (m : NMap) (vs : List SigV), matchArgs i l args m = some vs → args.length = l.length := by
      intro l
      induction l with
      | nil => intro args i m vs h; cases args with
        | nil => rfl
        | cons x r => simp [matchArgs] at h
      | cons p l ih => intro args i m vs h; cases args with
        | nil => simp [matchArgs] at h
        | cons x r =>
          obtain ⟨t, p⟩ := p
          simp only [matchArgs] at h
          split at h
          · split at h
            · rename_i a' b' ha' hb'
              simp [ih r _ _ _ hb']
            · cases h
          · cases h
    exact key _ _ _ _ _ ha
  · cases h

theorem exitX_at {c : TCtx} {rs : List ResultVar} {m : Nat} : ∀ (l : Exits) (x : ExT l), exitX c rs m l x = true → ∃ tm hp, exitB c rs m tm hp = true ∧ resX c rs m l x = resT c rs m tm hp ∧ ∃ e : Ex, ∀ {X : Type} (K : TK X), (goOn K l x).run = (K e tm hp).run
  | [], x, _ => x.elim
  | [e], x, h => ⟨_, _, h, rfl, e.1, fun K => rfl⟩
  | e :: e2 :: r, .inl y, h => ⟨_, _, h, rfl, e.1, fun K => rfl⟩
  | e :: e2 :: r, .inr y, h => by
    obtain ⟨tm, hp, h1, h2, e', h3⟩ := exitX_at (e2 :: r) y h
    exact ⟨tm, hp, h1, h2, e', fun K => h3 K⟩

theorem resT_congr {c c' : TCtx} (h : c.ty = c'.ty) (rs : List ResultVar) (m : Nat) (tm : List SVal) (hp : THp) : resT c rs m tm hp = resT c' rs m tm hp := by
  unfold resT
  rw [resOf_congr (c := bareC c) (c' := bareC c') h]
theorem resX_congr {c c' : TCtx} (h : c.ty = c'.ty) (rs : List ResultVar) (m : Nat) : ∀ (l : Exits) (o : ExT l), resX c rs m l o = resX c' rs m l o
  | [], o => o.elim
  | [e], o => resT_congr h rs m _ _
  | e :: e2 :: r, .inl y => resT_congr h rs m _ _
  | e :: e2 :: r, .inr y => resX_congr h rs m (e2 :: r) y
theorem validS_of {P : Program} {c : TCtx} (hT : TOK P c) (hm : P.follows .mixedOrders = true) {f : FuncId} {fn : Func} {body : Code} (hf : P.funcs[f]? = some fn) (hb : fn.body = some body) {pat : Pat} {l : Exits} {F : Vars pat.vars → Option (ExT l)} {c0 : TCtx} (hc0 : c0.ty = c.ty)
    (hann : annOK c body) (hF : ∀ v, F v = (mainT c pat l body v).run) (hent : entryB pat = true) (hsz : pat.size = fn.ntmps)
    (hex : ∀ x : ExT l, exitX c fn.results.toList pat.heap.length l x = true) {rs : List ResultVar} (hrs : rs = fn.results.toList) {m : Nat} (hm' : m = pat.heap.length) : ValidS P c.gl f (TSum.of c0 rs m pat l F) := by
  subst hrs hm'
  have hres : ∀ o : ExT l, resX c0 fn.results.toList pat.heap.length l o = resX c fn.results.toList pat.heap.length l o := fun o => resX_congr hc0 _ _ l o
  generalize hresN : resX c0 fn.results.toList pat.heap.length l = res at hres
  have hSr : (TSum.of c0 fn.results.toList pat.heap.length pat l F).res = res := hresN
  intro args ents v o hun hFo Fr RO ρ own w vals hgl H hρ hents hd
  rw [hSr]
  simp only [TSum.of] at hun hFo o
  have hlenA := unCall_length hun
  have hb0 := hent
  unfold entryB at hb0
  simp only [Bool.and_eq_true, decide_eq_true_eq] at hb0
  obtain ⟨⟨⟨_, _⟩, h100⟩, hslots⟩ := hb0
  have hlt : args.length ≤ fn.ntmps := by omega
  obtain ⟨hw, hle⟩ := entry_weak hent hun (fn.ntmps - args.length) (by omega)
  have hlenE : (eraH ents).length = pat.heap.length := by rw [eraH, List.length_map, hle]
  have hvl : vals.size = args.length := by rw [← Array.length_toList]; exact hd.length.symm
  have hρ0 : ∀ b, b < (eraH ents).length → ρ b 0 ≠ none := by
    intro b hb
    obtain ⟨e, he⟩ := Option.isSome_iff_exists.1 ((hents b).2 hb)
    obtain ⟨_, x, hx, _⟩ := H.ent b e he
    have := (hρ b e.ver (by rw [hx]; simp)).1
    rw [this] at hx
    rw [hx]; simp
  have hrun := hF v
  rw [hFo] at hrun
  refine calls_of_wp hf hb ?_
  have hB : ∀ b u, ρ b u ≠ none → b < 100 ∧ u = 0 := fun b u hne => ⟨by have := (hρ b u hne).2; omega, (hρ b u hne).1⟩
  have hr0 : RelL (⟨Fr, RO, ρ, w, hgl⟩ : Base c.gl) (args ++ List.replicate (fn.ntmps - args.length) .undef) (eraH ents) { tmps := vals ++ Array.replicate (fn.ntmps - vals.size) undef, defers := [] } w := by
    refine ⟨ρ, own, RO, H, ?_, fun t ht => ?_, rfl, Rho.le_refl _, fun _ hk => hk, AdvD.refl _ _ _⟩
    · simp only [Array.size_append, Array.size_replicate, List.length_append, List.length_replicate, hvl]
    · have hdd := hd.undefs (fn.ntmps - args.length)
      obtain ⟨y, hy, hdy⟩ := hdd.nth t ht
      have : (vals ++ Array.replicate (fn.ntmps - vals.size) undef).getD t undef = y := by
        rw [Array.getD_eq_getD_getElem?, ← Array.getElem?_toList]
        simp only [Array.toList_append, Array.toList_replicate, hvl, hy, Option.getD_some]
      show D ρ _ ((vals ++ Array.replicate (fn.ntmps - vals.size) undef).getD t undef)
      rw [this]
      exact hdy
  refine tvC_sound hT hm (B := ⟨Fr, RO, ρ, w, hgl⟩) hB body hann _ _ _ _ o _ _ w hrun.symm (hw.2 _ _ hB _ _ hr0) ?_
  intro e tm' hp' a' w' hk hr'
  have fin : ∀ (e : Ex), (∀ i, e ≠ .exit i) → (leaveAt l id .ret tm' hp').run = some o →
      ∃ tm2 hp2, Weak tm' (eraH hp') tm2 (eraH hp2) ∧ exitB c fn.results.toList pat.heap.length tm2 hp2 = true ∧ res o = resT c fn.results.toList pat.heap.length tm2 hp2 := by
    intro e he hk
    obtain ⟨x, e1, tm2, hp2, hw2, hg⟩ := leave_ok _ _ _ _ _ _ hk
    simp only [id] at e1
    obtain ⟨tm3, hp3, g1, g2, e', g3⟩ := exitX_at l x (hex x)
    have k1 := hg (fun (_ : Ex) tm hp => (Tm.ret (tm, hp) : Tm (List SVal × THp)))
    have k2 := g3 (fun (_ : Ex) tm hp => (Tm.ret (tm, hp) : Tm (List SVal × THp)))
    rw [k1] at k2
    simp only [Tm.run, Option.some.injEq, Prod.mk.injEq] at k2
    obtain ⟨rfl, rfl⟩ := k2
    exact ⟨_, _, hw2, g1, by rw [hres, e1, g2]⟩
  have main : ∀ (e : Ex), (∀ i, e ≠ .exit i) → (leaveAt l id .ret tm' hp').run = some o → a'.defers = [] ∧ ∃ v, (results fn a'.tmps).run P w' = .ok v w' ∧
      ∃ v' ρ' own' RO', Ending.returned v = .returned v' ∧ HRel Fr RO' ρ' own' (putsF (findE (eraH ents)) (eraH (res o).2)) w' ∧ D ρ' (res o).1 v' ∧
      (∀ b, b < (eraH ents).length → (∃ e, putsF (findE (eraH ents)) (eraH (res o).2) b = some e) ∧ ∀ x, ρ' b 0 = some x → ρ b 0 = some x) ∧ (∀ k, RO k → RO' k) ∧ AdvD (Str c.gl) (fun k => RO k ∨ Fr k) w w' := by
    intro e he hk
    obtain ⟨tm2, hp2, hw2, g1, g2⟩ := fin e he hk
    have hr2 := hw2.2 _ _ hB _ _ hr'
    rw [← hlenE] at g1 g2
    have hxk := exitB_ok g1 he
    obtain ⟨h1, h2, v, ρ', own', RO', h3, h4, h5, h6, h7, h8⟩ := exit_sound (fn := fn) hT.ty (ents := eraH ents) hρ hρ0 hxk hr2
    have hputs := exitB_puts g1 hents
    rw [← g2] at hputs h4 h5 h6
    rw [hputs]
    exact ⟨h1, v, h3, v, ρ', own', RO', rfl, h4, h5, h6, h7, h8⟩
  cases e with
  | normal => exact main .normal (fun i => by simp) hk
  | ret => exact main .ret (fun i => by simp) hk
  | exit i => simp [Tm.run] at hk

end Go.Sx

namespace Go.Sx
open Go.Proofs
inductive BT (α : Type) where
  | nil
  | node (k : Nat) (x : α) (l r : BT α)
def BT.find {α : Type} : BT α → Nat → Option α
  | .nil, _ => none
  | .node k x l r, t => if t = k then some x else if t < k then BT.find l t else BT.find r t
def BT.list {α : Type} : BT α → List (Nat × α)
  | .nil => []
  | .node k x l r => BT.list l ++ (k, x) :: BT.list r
theorem BT.find_mem {α : Type} : ∀ (b : BT α) (t : Nat) (x : α), b.find t = some x → (t, x) ∈ b.list
  | .nil, t, x, h => by simp [BT.find] at h
  | .node k y l r, t, x, h => by
    simp only [BT.find] at h
    simp only [BT.list, List.mem_append, List.mem_cons]
    split at h
    · rename_i hk; cases h; subst hk; exact .inr (.inl rfl)
    · split at h
      · exact .inl (BT.find_mem l t x h)
      · exact .inr (.inr (BT.find_mem r t x h))
theorem BT.all {α : Type} (b : BT α) (f : Nat → Option α) (h : b.list.map (fun x => f x.1) = b.list.map (fun x => some x.2)) (t : Nat) (i : α) (hi : b.find t = some i) : f t = some i := by
  have hm := BT.find_mem _ _ _ hi
  generalize b.list = l at h hm
  induction l with
  | nil => simp at hm
  | cons y r ih =>
    simp only [List.map_cons, List.cons.injEq] at h
    rcases List.mem_cons.1 hm with rfl | hm
    · exact h.1
    · exact ih h.2 hm

def tyB : BT TI := (.node 83 (⟨1, 8, .other, [.nilFunc]⟩) (.node 39 (⟨3, 12, (.struct [(0, 38), (2, 25)]), [(.int .u32 0), (.int .u32 0), (.int .u32 0)]⟩) (.node 19 (⟨1, 8, (.struct [(0, 17)]), [(.pointer none)]⟩) (.node 10 (⟨1, 16, .str, [(.string ByteArray.empty)]⟩) (.node 5 (⟨1, 1, (.int .u8), [(.int .u8 0)]⟩) (.node 3 (⟨1, 8, (.int .i64), [(.int .i64 0)]⟩) (.node 2 (⟨1, 8, (.int .i64), [(.int .i64 0)]⟩) (.node 1 (⟨1, 8, .other, [.nilFunc]⟩) .nil .nil) .nil) (.node 4 (⟨1, 1, .bool, [(.bool false)]⟩) .nil .nil)) (.node 8 (⟨4, 24, (.struct [(0, 2), (1, 3), (2, 4), (3, 6)]), [(.int .i64 0), (.int .i64 0), (.bool false), (.int .u8 0)]⟩) (.node 7 (⟨4, 24, (.struct [(0, 2), (1, 3), (2, 4), (3, 6)]), [(.int .i64 0), (.int .i64 0), (.bool false), (.int .u8 0)]⟩) (.node 6 (⟨1, 1, (.int .u8), [(.int .u8 0)]⟩) .nil .nil) .nil) (.node 9 (⟨1, 16, .str, [(.string ByteArray.empty)]⟩) .nil .nil))) (.node 15 (⟨1, 8, (.ptr 152), [(.pointer none)]⟩) (.node 13 (⟨2, 24, (.struct [(0, 9), (1, 12)]), [(.string ByteArray.empty), (.int .u64 0)]⟩) (.node 12 (⟨1, 8, (.int .u64), [(.int .u64 0)]⟩) (.node 11 (⟨1, 16, .str, [(.string ByteArray.empty)]⟩) .nil .nil) .nil) (.node 14 (⟨2, 24, (.struct [(0, 9), (1, 12)]), [(.string ByteArray.empty), (.int .u64 0)]⟩) .nil .nil)) (.node 17 (⟨1, 8, (.ptr 162), [(.pointer none)]⟩) (.node 16 (⟨1, 8, (.ptr 155), [(.pointer none)]⟩) .nil .nil) (.node 18 (⟨1, 8, (.struct [(0, 17)]), [(.pointer none)]⟩) .nil .nil)))) (.node 29 (⟨1, 8, .other, [.nilFunc]⟩) (.node 24 (⟨1, 8, .other, [.nilFunc]⟩) (.node 22 (⟨1, 24, (.slice 25), [(.slice none 0 0)]⟩) (.node 21 (⟨1, 4, (.int .i32), [(.int .i32 0)]⟩) (.node 20 (⟨1, 16, .iface, [.nilIface]⟩) .nil .nil) .nil) (.node 23 (⟨1, 8, .other, [.nilFunc]⟩) .nil .nil)) (.node 26 (⟨1, 24, (.slice 32), [(.slice none 0 0)]⟩) (.node 25 (⟨1, 4, (.int .u32), [(.int .u32 0)]⟩) .nil .nil) (.node 27 (⟨1, 8, (.int .i64), [(.int .i64 0)]⟩) .nil .nil))) (.node 34 (⟨1, 24, (.slice 40), [(.slice none 0 0)]⟩) (.node 32 (⟨4, 40, (.struct [(0, 25), (1, 22), (2, 4), (3, 4)]), [(.int .u32 0), (.slice none 0 0), (.bool false), (.bool false)]⟩) (.node 31 (⟨4, 40, (.struct [(0, 25), (1, 22), (2, 4), (3, 4)]), [(.int .u32 0), (.slice none 0 0), (.bool false), (.bool false)]⟩) (.node 30 (⟨1, 8, .other, [.nilFunc]⟩) .nil .nil) .nil) (.node 33 (⟨1, 8, .other, [.nilFunc]⟩) .nil .nil)) (.node 37 (⟨2, 8, (.struct [(0, 25), (1, 25)]), [(.int .u32 0), (.int .u32 0)]⟩) (.node 36 (⟨1, 8, .other, [.nilFunc]⟩) .nil .nil) (.node 38 (⟨2, 8, (.struct [(0, 25), (1, 25)]), [(.int .u32 0), (.int .u32 0)]⟩) .nil .nil))))) (.node 61 (⟨1, 8, .other, [.nilFunc]⟩) (.node 48 (⟨1, 8, .other, [.nilFunc]⟩) (.node 44 (⟨1, 8, (.int .u64), [(.int .u64 0)]⟩) (.node 42 (⟨1, 8, .other, [.nilFunc]⟩) (.node 41 (⟨1, 24, (.slice 9), [(.slice none 0 0)]⟩) (.node 40 (⟨3, 12, (.struct [(0, 38), (2, 25)]), [(.int .u32 0), (.int .u32 0), (.int .u32 0)]⟩) .nil .nil) .nil) (.node 43 (⟨1, 8, .other, [.nilFunc]⟩) .nil .nil)) (.node 46 (⟨1, 8, .other, [.nilFunc]⟩) (.node 45 (⟨1, 8, .other, [.nilFunc]⟩) .nil .nil) (.node 47 (⟨1, 8, .other, [.nilFunc]⟩) .nil .nil))) (.node 56 (⟨1, 8, .other, [.nilFunc]⟩) (.node 53 (⟨1, 8, .other, [.nilFunc]⟩) (.node 52 (⟨1, 8, .other, [.nilFunc]⟩) (.node 50 (⟨1, 8, .other, [.nilFunc]⟩) .nil .nil) .nil) (.node 54 (⟨1, 8, .other, [.nilFunc]⟩) .nil .nil)) (.node 58 (⟨1, 16, .iface, [.nilIface]⟩) (.node 57 (⟨1, 8, .other, [.nilFunc]⟩) .nil .nil) (.node 59 (⟨1, 16, .iface, [.nilIface]⟩) .nil .nil)))) (.node 70 (⟨1, 8, .other, [.nilFunc]⟩) (.node 66 (⟨2, 32, (.struct [(0, 63), (1, 64)]), [(.pointer none), (.slice none 0 0)]⟩) (.node 64 (⟨1, 24, (.slice 5), [(.slice none 0 0)]⟩) (.node 63 (⟨1, 8, (.ptr 66), [(.pointer none)]⟩) (.node 62 (⟨1, 8, .other, [.nilFunc]⟩) .nil .nil) .nil) (.node 65 (⟨2, 32, (.struct [(0, 63), (1, 64)]), [(.pointer none), (.slice none 0 0)]⟩) .nil .nil)) (.node 68 (⟨1, 8, .other, [.nilFunc]⟩) (.node 67 (⟨1, 8, .other, [.nilFunc]⟩) .nil .nil) (.node 69 (⟨1, 8, .other, [.nilFunc]⟩) .nil .nil))) (.node 76 (⟨1, 8, .other, [.nilFunc]⟩) (.node 74 (⟨1, 8, .other, [.nilFunc]⟩) (.node 72 (⟨1, 8, (.int .u64), [(.int .u64 0)]⟩) (.node 71 (⟨1, 8, .other, [.nilFunc]⟩) .nil .nil) .nil) (.node 75 (⟨1, 8, .other, [.nilFunc]⟩) .nil .nil)) (.node 79 (⟨1, 8, .other, [.nilFunc]⟩) (.node 77 (⟨1, 8, .other, [.nilFunc]⟩) .nil .nil) (.node 81 (⟨1, 8, .other, [.nilFunc]⟩) .nil .nil)))))) (.node 126 (⟨1, 8, .other, [.nilFunc]⟩) (.node 107 (⟨1, 8, .other, [.nilFunc]⟩) (.node 94 (⟨1, 8, .other, [.nilFunc]⟩) (.node 89 (⟨1, 8, .other, [.nilFunc]⟩) (.node 86 (⟨1, 8, (.ptr 5), [(.pointer none)]⟩) (.node 85 (⟨1, 8, .other, [.nilFunc]⟩) (.node 84 (⟨1, 8, .other, [.nilFunc]⟩) .nil .nil) .nil) (.node 88 (⟨1, 8, .other, [.nilFunc]⟩) .nil .nil)) (.node 92 (⟨1, 8, .other, [.nilFunc]⟩) (.node 91 (⟨1, 8, .other, [.nilFunc]⟩) (.node 90 (⟨1, 8, .other, [.nilFunc]⟩) .nil .nil) .nil) (.node 93 (⟨24, 24, (.arr 24 5), [(.int .u8 0), (.int .u8 0), (.int .u8 0), (.int .u8 0), (.int .u8 0), (.int .u8 0), (.int .u8 0), (.int .u8 0), (.int .u8 0), (.int .u8 0), (.int .u8 0), (.int .u8 0), (.int .u8 0), (.int .u8 0), (.int .u8 0), (.int .u8 0), (.int .u8 0), (.int .u8 0), (.int .u8 0), (.int .u8 0), (.int .u8 0), (.int .u8 0), (.int .u8 0), (.int .u8 0)]⟩) .nil .nil))) (.node 102 (⟨1, 8, .other, [.nilFunc]⟩) (.node 99 (⟨1, 8, .other, [.nilFunc]⟩) (.node 97 (⟨1, 8, .other, [.nilFunc]⟩) (.node 95 (⟨1, 8, .other, [.nilFunc]⟩) .nil .nil) .nil) (.node 101 (⟨1, 8, .other, [.nilFunc]⟩) .nil .nil)) (.node 105 (⟨1, 8, .other, [.nilFunc]⟩) (.node 103 (⟨1, 8, (.int .i64), [(.int .i64 0)]⟩) .nil .nil) (.node 106 (⟨1, 8, (.ptr 128), [(.pointer none)]⟩) .nil .nil)))) (.node 117 (⟨1, 8, .other, [.nilFunc]⟩) (.node 112 (⟨1, 8, .other, [.nilFunc]⟩) (.node 110 (⟨1, 8, .other, [.nilFunc]⟩) (.node 109 (⟨1, 8, .other, [(.pointer none)]⟩) (.node 108 (⟨1, 8, .other, [.nilFunc]⟩) .nil .nil) .nil) (.node 111 (⟨1, 8, .other, [.nilFunc]⟩) .nil .nil)) (.node 115 (⟨1, 24, (.slice 146), [(.slice none 0 0)]⟩) (.node 114 (⟨1, 8, .other, [.nilFunc]⟩) .nil .nil) (.node 116 (⟨1, 8, .other, [.nilFunc]⟩) .nil .nil))) (.node 122 (⟨1, 8, .other, [.nilFunc]⟩) (.node 120 (⟨1, 8, .other, [.nilFunc]⟩) (.node 119 (⟨65, 65, (.arr 65 5), [(.int .u8 0), (.int .u8 0), (.int .u8 0), (.int .u8 0), (.int .u8 0), (.int .u8 0), (.int .u8 0), (.int .u8 0), (.int .u8 0), (.int .u8 0), (.int .u8 0), (.int .u8 0), (.int .u8 0), (.int .u8 0), (.int .u8 0), (.int .u8 0), (.int .u8 0), (.int .u8 0), (.int .u8 0), (.int .u8 0), (.int .u8 0), (.int .u8 0), (.int .u8 0), (.int .u8 0), (.int .u8 0), (.int .u8 0), (.int .u8 0), (.int .u8 0), (.int .u8 0), (.int .u8 0), (.int .u8 0), (.int .u8 0), (.int .u8 0), (.int .u8 0), (.int .u8 0), (.int .u8 0), (.int .u8 0), (.int .u8 0), (.int .u8 0), (.int .u8 0), (.int .u8 0), (.int .u8 0), (.int .u8 0), (.int .u8 0), (.int .u8 0), (.int .u8 0), (.int .u8 0), (.int .u8 0), (.int .u8 0), (.int .u8 0), (.int .u8 0), (.int .u8 0), (.int .u8 0), (.int .u8 0), (.int .u8 0), (.int .u8 0), (.int .u8 0), (.int .u8 0), (.int .u8 0), (.int .u8 0), (.int .u8 0), (.int .u8 0), (.int .u8 0), (.int .u8 0), (.int .u8 0)]⟩) (.node 118 (⟨20, 160, (.arr 20 44), [(.int .u64 0), (.int .u64 0), (.int .u64 0), (.int .u64 0), (.int .u64 0), (.int .u64 0), (.int .u64 0), (.int .u64 0), (.int .u64 0), (.int .u64 0), (.int .u64 0), (.int .u64 0), (.int .u64 0), (.int .u64 0), (.int .u64 0), (.int .u64 0), (.int .u64 0), (.int .u64 0), (.int .u64 0), (.int .u64 0)]⟩) .nil .nil) .nil) (.node 121 (⟨1, 8, .other, [.nilFunc]⟩) .nil .nil)) (.node 124 (⟨1, 8, .other, [.nilFunc]⟩) (.node 123 (⟨1, 8, .other, [.nilFunc]⟩) .nil .nil) (.node 125 (⟨1, 8, .other, [.nilFunc]⟩) .nil .nil))))) (.node 145 (⟨5, 20, (.struct [(0, 25), (1, 25), (2, 144)]), [(.int .u32 0), (.int .u32 0), (.int .i32 0), (.int .i32 0), (.int .i32 0)]⟩) (.node 136 (⟨1, 8, .other, [.nilFunc]⟩) (.node 132 (⟨2, 2, (.struct [(0, 5), (1, 5)]), [(.int .u8 0), (.int .u8 0)]⟩) (.node 129 (⟨1, 8, .other, [.nilFunc]⟩) (.node 128 (⟨3, 48, (.struct [(0, 9), (1, 9), (2, 59)]), [(.string ByteArray.empty), (.string ByteArray.empty), .nilIface]⟩) (.node 127 (⟨3, 48, (.struct [(0, 9), (1, 9), (2, 59)]), [(.string ByteArray.empty), (.string ByteArray.empty), .nilIface]⟩) .nil .nil) .nil) (.node 131 (⟨2, 2, (.struct [(0, 5), (1, 5)]), [(.int .u8 0), (.int .u8 0)]⟩) .nil .nil)) (.node 134 (⟨1, 8, (.ptr 146), [(.pointer none)]⟩) (.node 133 (⟨32, 32, (.arr 16 132), [(.int .u8 0), (.int .u8 0), (.int .u8 0), (.int .u8 0), (.int .u8 0), (.int .u8 0), (.int .u8 0), (.int .u8 0), (.int .u8 0), (.int .u8 0), (.int .u8 0), (.int .u8 0), (.int .u8 0), (.int .u8 0), (.int .u8 0), (.int .u8 0), (.int .u8 0), (.int .u8 0), (.int .u8 0), (.int .u8 0), (.int .u8 0), (.int .u8 0), (.int .u8 0), (.int .u8 0), (.int .u8 0), (.int .u8 0), (.int .u8 0), (.int .u8 0), (.int .u8 0), (.int .u8 0), (.int .u8 0), (.int .u8 0)]⟩) .nil .nil) (.node 135 (⟨1, 8, .other, [.nilFunc]⟩) .nil .nil))) (.node 141 (⟨1, 16, (.struct [(0, 9)]), [(.string ByteArray.empty)]⟩) (.node 139 (⟨1, 8, .other, [.nilFunc]⟩) (.node 138 (⟨1, 8, .other, [.nilFunc]⟩) (.node 137 (⟨1, 8, .other, [.nilFunc]⟩) .nil .nil) .nil) (.node 140 (⟨1, 8, (.ptr 142), [(.pointer none)]⟩) .nil .nil)) (.node 143 (⟨3, 12, (.arr 3 21), [(.int .i32 0), (.int .i32 0), (.int .i32 0)]⟩) (.node 142 (⟨1, 16, (.struct [(0, 9)]), [(.string ByteArray.empty)]⟩) .nil .nil) (.node 144 (⟨3, 12, (.arr 3 21), [(.int .i32 0), (.int .i32 0), (.int .i32 0)]⟩) .nil .nil)))) (.node 154 (⟨0, 0, (.struct [(0, 153)]), []⟩) (.node 150 (⟨1, 8, .other, [.nilFunc]⟩) (.node 148 (⟨64, 64, (.arr 64 5), [(.int .u8 0), (.int .u8 0), (.int .u8 0), (.int .u8 0), (.int .u8 0), (.int .u8 0), (.int .u8 0), (.int .u8 0), (.int .u8 0), (.int .u8 0), (.int .u8 0), (.int .u8 0), (.int .u8 0), (.int .u8 0), (.int .u8 0), (.int .u8 0), (.int .u8 0), (.int .u8 0), (.int .u8 0), (.int .u8 0), (.int .u8 0), (.int .u8 0), (.int .u8 0), (.int .u8 0), (.int .u8 0), (.int .u8 0), (.int .u8 0), (.int .u8 0), (.int .u8 0), (.int .u8 0), (.int .u8 0), (.int .u8 0), (.int .u8 0), (.int .u8 0), (.int .u8 0), (.int .u8 0), (.int .u8 0), (.int .u8 0), (.int .u8 0), (.int .u8 0), (.int .u8 0), (.int .u8 0), (.int .u8 0), (.int .u8 0), (.int .u8 0), (.int .u8 0), (.int .u8 0), (.int .u8 0), (.int .u8 0), (.int .u8 0), (.int .u8 0), (.int .u8 0), (.int .u8 0), (.int .u8 0), (.int .u8 0), (.int .u8 0), (.int .u8 0), (.int .u8 0), (.int .u8 0), (.int .u8 0), (.int .u8 0), (.int .u8 0), (.int .u8 0), (.int .u8 0)]⟩) (.node 147 (⟨32, 32, (.arr 32 5), [(.int .u8 0), (.int .u8 0), (.int .u8 0), (.int .u8 0), (.int .u8 0), (.int .u8 0), (.int .u8 0), (.int .u8 0), (.int .u8 0), (.int .u8 0), (.int .u8 0), (.int .u8 0), (.int .u8 0), (.int .u8 0), (.int .u8 0), (.int .u8 0), (.int .u8 0), (.int .u8 0), (.int .u8 0), (.int .u8 0), (.int .u8 0), (.int .u8 0), (.int .u8 0), (.int .u8 0), (.int .u8 0), (.int .u8 0), (.int .u8 0), (.int .u8 0), (.int .u8 0), (.int .u8 0), (.int .u8 0), (.int .u8 0)]⟩) (.node 146 (⟨5, 20, (.struct [(0, 25), (1, 25), (2, 144)]), [(.int .u32 0), (.int .u32 0), (.int .i32 0), (.int .i32 0), (.int .i32 0)]⟩) .nil .nil) .nil) (.node 149 (⟨1, 8, .other, [.nilFunc]⟩) .nil .nil)) (.node 152 (⟨4, 40, (.struct [(0, 17), (1, 17), (2, 17), (3, 9)]), [(.pointer none), (.pointer none), (.pointer none), (.string ByteArray.empty)]⟩) (.node 151 (⟨4, 40, (.struct [(0, 17), (1, 17), (2, 17), (3, 9)]), [(.pointer none), (.pointer none), (.pointer none), (.string ByteArray.empty)]⟩) .nil .nil) (.node 153 (⟨0, 0, (.arr 0 16), []⟩) .nil .nil))) (.node 159 (⟨1, 4, (.int .i32), [(.int .i32 0)]⟩) (.node 157 (⟨1, 1, (.int .u8), [(.int .u8 0)]⟩) (.node 156 (⟨1, 1, (.int .u8), [(.int .u8 0)]⟩) (.node 155 (⟨0, 0, (.struct [(0, 153)]), []⟩) .nil .nil) .nil) (.node 158 (⟨1, 8, .other, [.nilFunc]⟩) .nil .nil)) (.node 161 (⟨11, 48, (.struct [(0, 12), (1, 12), (2, 25), (3, 156), (4, 5), (5, 5), (6, 157), (7, 158), (8, 86), (9, 159), (10, 160)]), [(.int .u64 0), (.int .u64 0), (.int .u32 0), (.int .u8 0), (.int .u8 0), (.int .u8 0), (.int .u8 0), .nilFunc, (.pointer none), (.int .i32 0), (.int .i32 0)]⟩) (.node 160 (⟨1, 4, (.int .i32), [(.int .i32 0)]⟩) .nil .nil) (.node 162 (⟨11, 48, (.struct [(0, 12), (1, 12), (2, 25), (3, 156), (4, 5), (5, 5), (6, 157), (7, 158), (8, 86), (9, 159), (10, 160)]), [(.int .u64 0), (.int .u64 0), (.int .u32 0), (.int .u8 0), (.int .u8 0), (.int .u8 0), (.int .u8 0), .nilFunc, (.pointer none), (.int .i32 0), (.int .i32 0)]⟩) .nil .nil)))))))
def cmpB : BT (List LK) := (.node 40 ([.i, .i, .i]) (.node 37 ([.i, .i]) (.node 8 ([.i, .i, .b, .i]) (.node 7 ([.i, .i, .b, .i]) .nil .nil) .nil) (.node 39 ([.i, .i, .i]) (.node 38 ([.i, .i]) .nil .nil) .nil)) (.node 141 ([.s]) (.node 132 ([.i, .i]) (.node 131 ([.i, .i]) .nil .nil) .nil) (.node 142 ([.s]) .nil .nil)))
def kdB : BT (List CK) := (.node 41 ([.s 9 [.str]]) (.node 14 ([.b .str, .b (.int .u64)]) (.node 8 ([.b (.int .i64), .b (.int .i64), .b .bool, .b (.int .u8)]) (.node 5 ([.b (.int .u8)]) (.node 3 ([.b (.int .i64)]) (.node 2 ([.b (.int .i64)]) .nil .nil) (.node 4 ([.b .bool]) .nil .nil)) (.node 7 ([.b (.int .i64), .b (.int .i64), .b .bool, .b (.int .u8)]) (.node 6 ([.b (.int .u8)]) .nil .nil) .nil)) (.node 11 ([.b .str]) (.node 10 ([.b .str]) (.node 9 ([.b .str]) .nil .nil) .nil) (.node 13 ([.b .str, .b (.int .u64)]) (.node 12 ([.b (.int .u64)]) .nil .nil) .nil))) (.node 32 ([.b (.int .u32), .s 25 [.int .u32], .b .bool, .b .bool]) (.node 25 ([.b (.int .u32)]) (.node 22 ([.s 25 [.int .u32]]) (.node 21 ([.b (.int .i32)]) .nil .nil) .nil) (.node 31 ([.b (.int .u32), .s 25 [.int .u32], .b .bool, .b .bool]) (.node 27 ([.b (.int .i64)]) .nil .nil) .nil)) (.node 38 ([.b (.int .u32), .b (.int .u32)]) (.node 37 ([.b (.int .u32), .b (.int .u32)]) (.node 34 ([.s 40 [.int .u32, .int .u32, .int .u32]]) .nil .nil) .nil) (.node 40 ([.b (.int .u32), .b (.int .u32), .b (.int .u32)]) (.node 39 ([.b (.int .u32), .b (.int .u32), .b (.int .u32)]) .nil .nil) .nil)))) (.node 141 ([.b .str]) (.node 115 ([.s 146 [.int .u32, .int .u32, .int .i32, .int .i32, .int .i32]]) (.node 72 ([.b (.int .u64)]) (.node 64 ([.s 5 [.int .u8]]) (.node 44 ([.b (.int .u64)]) .nil .nil) .nil) (.node 103 ([.b (.int .i64)]) (.node 93 ([.b (.int .u8), .b (.int .u8), .b (.int .u8), .b (.int .u8), .b (.int .u8), .b (.int .u8), .b (.int .u8), .b (.int .u8), .b (.int .u8), .b (.int .u8), .b (.int .u8), .b (.int .u8), .b (.int .u8), .b (.int .u8), .b (.int .u8), .b (.int .u8), .b (.int .u8), .b (.int .u8), .b (.int .u8), .b (.int .u8), .b (.int .u8), .b (.int .u8), .b (.int .u8), .b (.int .u8)]) .nil .nil) .nil)) (.node 131 ([.b (.int .u8), .b (.int .u8)]) (.node 119 ([.b (.int .u8), .b (.int .u8), .b (.int .u8), .b (.int .u8), .b (.int .u8), .b (.int .u8), .b (.int .u8), .b (.int .u8), .b (.int .u8), .b (.int .u8), .b (.int .u8), .b (.int .u8), .b (.int .u8), .b (.int .u8), .b (.int .u8), .b (.int .u8), .b (.int .u8), .b (.int .u8), .b (.int .u8), .b (.int .u8), .b (.int .u8), .b (.int .u8), .b (.int .u8), .b (.int .u8), .b (.int .u8), .b (.int .u8), .b (.int .u8), .b (.int .u8), .b (.int .u8), .b (.int .u8), .b (.int .u8), .b (.int .u8), .b (.int .u8), .b (.int .u8), .b (.int .u8), .b (.int .u8), .b (.int .u8), .b (.int .u8), .b (.int .u8), .b (.int .u8), .b (.int .u8), .b (.int .u8), .b (.int .u8), .b (.int .u8), .b (.int .u8), .b (.int .u8), .b (.int .u8), .b (.int .u8), .b (.int .u8), .b (.int .u8), .b (.int .u8), .b (.int .u8), .b (.int .u8), .b (.int .u8), .b (.int .u8), .b (.int .u8), .b (.int .u8), .b (.int .u8), .b (.int .u8), .b (.int .u8), .b (.int .u8), .b (.int .u8), .b (.int .u8), .b (.int .u8), .b (.int .u8)]) (.node 118 ([.b (.int .u64), .b (.int .u64), .b (.int .u64), .b (.int .u64), .b (.int .u64), .b (.int .u64), .b (.int .u64), .b (.int .u64), .b (.int .u64), .b (.int .u64), .b (.int .u64), .b (.int .u64), .b (.int .u64), .b (.int .u64), .b (.int .u64), .b (.int .u64), .b (.int .u64), .b (.int .u64), .b (.int .u64), .b (.int .u64)]) .nil .nil) .nil) (.node 133 ([.b (.int .u8), .b (.int .u8), .b (.int .u8), .b (.int .u8), .b (.int .u8), .b (.int .u8), .b (.int .u8), .b (.int .u8), .b (.int .u8), .b (.int .u8), .b (.int .u8), .b (.int .u8), .b (.int .u8), .b (.int .u8), .b (.int .u8), .b (.int .u8), .b (.int .u8), .b (.int .u8), .b (.int .u8), .b (.int .u8), .b (.int .u8), .b (.int .u8), .b (.int .u8), .b (.int .u8), .b (.int .u8), .b (.int .u8), .b (.int .u8), .b (.int .u8), .b (.int .u8), .b (.int .u8), .b (.int .u8), .b (.int .u8)]) (.node 132 ([.b (.int .u8), .b (.int .u8)]) .nil .nil) .nil))) (.node 147 ([.b (.int .u8), .b (.int .u8), .b (.int .u8), .b (.int .u8), .b (.int .u8), .b (.int .u8), .b (.int .u8), .b (.int .u8), .b (.int .u8), .b (.int .u8), .b (.int .u8), .b (.int .u8), .b (.int .u8), .b (.int .u8), .b (.int .u8), .b (.int .u8), .b (.int .u8), .b (.int .u8), .b (.int .u8), .b (.int .u8), .b (.int .u8), .b (.int .u8), .b (.int .u8), .b (.int .u8), .b (.int .u8), .b (.int .u8), .b (.int .u8), .b (.int .u8), .b (.int .u8), .b (.int .u8), .b (.int .u8), .b (.int .u8)]) (.node 144 ([.b (.int .i32), .b (.int .i32), .b (.int .i32)]) (.node 143 ([.b (.int .i32), .b (.int .i32), .b (.int .i32)]) (.node 142 ([.b .str]) .nil .nil) .nil) (.node 146 ([.b (.int .u32), .b (.int .u32), .b (.int .i32), .b (.int .i32), .b (.int .i32)]) (.node 145 ([.b (.int .u32), .b (.int .u32), .b (.int .i32), .b (.int .i32), .b (.int .i32)]) .nil .nil) .nil)) (.node 157 ([.b (.int .u8)]) (.node 156 ([.b (.int .u8)]) (.node 148 ([.b (.int .u8), .b (.int .u8), .b (.int .u8), .b (.int .u8), .b (.int .u8), .b (.int .u8), .b (.int .u8), .b (.int .u8), .b (.int .u8), .b (.int .u8), .b (.int .u8), .b (.int .u8), .b (.int .u8), .b (.int .u8), .b (.int .u8), .b (.int .u8), .b (.int .u8), .b (.int .u8), .b (.int .u8), .b (.int .u8), .b (.int .u8), .b (.int .u8), .b (.int .u8), .b (.int .u8), .b (.int .u8), .b (.int .u8), .b (.int .u8), .b (.int .u8), .b (.int .u8), .b (.int .u8), .b (.int .u8), .b (.int .u8), .b (.int .u8), .b (.int .u8), .b (.int .u8), .b (.int .u8), .b (.int .u8), .b (.int .u8), .b (.int .u8), .b (.int .u8), .b (.int .u8), .b (.int .u8), .b (.int .u8), .b (.int .u8), .b (.int .u8), .b (.int .u8), .b (.int .u8), .b (.int .u8), .b (.int .u8), .b (.int .u8), .b (.int .u8), .b (.int .u8), .b (.int .u8), .b (.int .u8), .b (.int .u8), .b (.int .u8), .b (.int .u8), .b (.int .u8), .b (.int .u8), .b (.int .u8), .b (.int .u8), .b (.int .u8), .b (.int .u8), .b (.int .u8)]) .nil .nil) .nil) (.node 160 ([.b (.int .i32)]) (.node 159 ([.b (.int .i32)]) .nil .nil) .nil)))))
theorem tyB_ok : ∀ t i, tyB.find t = some i → tiOf Tryd.prog t = some i := BT.all _ _ (by kernel_rfl)
theorem cmpB_ok : ∀ t i, cmpB.find t = some i → cmpT Tryd.prog t = some i := BT.all _ _ (by kernel_rfl)

def baseC (gl : Glob) (l : Nat → List TSum) : TCtx := ⟨tyB.find, cmpB.find, gl, kdB.find, l, fun _ => none, 0, fun _ => none, fun _ => none⟩
theorem hm_ : Tryd.prog.follows .mixedOrders = true := by kernel_rfl
end Go.Sx

namespace Go.Sx
open Go.Proofs
def obls (c : TCtx) : Code → List Prop
  | .seq a b => obls c a ++ obls c b ++ match c.cuts (keyOf b) with
    | some q => [∀ v, q.fn v = (pieceT c q.pat q.exits b v).run]
    | none => []
  | .cond _ a b => obls c a ++ obls c b
  | .block _ b => obls c b
  | .loop b => obls c b ++ match c.loops (keyOf b) with
    | some q => [∀ v, q.body v = (roundT c q.pat q.exits b v).run]
    | none => []
  | _ => []
def allP : List Prop → Prop
  | [] => True
  | p :: r => p ∧ allP r
theorem allP_append : ∀ (l r : List Prop), allP (l ++ r) → allP l ∧ allP r
  | [], r, h => ⟨trivial, h⟩
  | p :: l, r, h => by
    obtain ⟨h1, h2⟩ := allP_append l r h.2
    exact ⟨⟨h.1, h1⟩, h2⟩
theorem annOK_of {c : TCtx} : ∀ (code : Code), allP (obls c code) → annOK c code := by
  intro code
  induction code with
  | seq a b iha ihb =>
    intro h
    simp only [obls] at h
    obtain ⟨h1, h2⟩ := allP_append _ _ h
    obtain ⟨h3, h4⟩ := allP_append _ _ h1
    refine ⟨iha h3, ihb h4, ?_⟩
    split
    · rename_i q hq
      rw [hq] at h2
      exact h2.1
    · trivial
  | cond x a b iha ihb =>
    intro h
    simp only [obls] at h
    obtain ⟨h1, h2⟩ := allP_append _ _ h
    exact ⟨iha h1, ihb h2⟩
  | block id b ih => intro h; exact ih h
  | loop b ih =>
    intro h
    simp only [obls] at h
    obtain ⟨h1, h2⟩ := allP_append _ _ h
    refine ⟨ih h1, ?_⟩
    split
    · rename_i q hq
      rw [hq] at h2
      exact h2.1
    · trivial
  | _ => intros; trivial
theorem annOK_by {c : TCtx} {code : Code} {l : List Prop} (h : obls c code = l) (hl : allP l) : annOK c code := annOK_of code (by rw [h]; exact hl)

inductive AllX (c : TCtx) (rs : List ResultVar) (m : Nat) : Exits → Prop
  | nil : AllX c rs m []
  | cons {e : Ex × Pat} {r : Exits} : (∀ v : Vars e.2.vars, exitB c rs m (mkTm e.2 v) (mkHp e.2 v) = true) → AllX c rs m r → AllX c rs m (e :: r)
theorem exitX_of {c : TCtx} {rs : List ResultVar} {m : Nat} : ∀ {l : Exits}, AllX c rs m l → ∀ x : ExT l, exitX c rs m l x = true
  | [], _, x => x.elim
  | [e], .cons h _, x => h x
  | e :: e2 :: r, .cons h hr, x => match x with
    | .inl y => h y
    | .inr y => exitX_of hr y

inductive AllS (P : Program) (gl : Glob) (f : FuncId) : List TSum → Prop
  | nil : AllS P gl f []
  | cons {S : TSum} {l : List TSum} : ValidS P gl f S → AllS P gl f l → AllS P gl f (S :: l)
inductive AllV (P : Program) (gl : Glob) : List (Nat × List TSum) → Prop
  | nil : AllV P gl []
  | cons {f : Nat} {l : List TSum} {r : List (Nat × List TSum)} : AllS P gl f l → HasBody P f → AllV P gl r → AllV P gl ((f, l) :: r)
theorem AllS.mem {P : Program} {gl : Glob} {f : FuncId} {l : List TSum} (h : AllS P gl f l) : ∀ S ∈ l, ValidS P gl f S := by
  induction h with
  | nil => intro S hS; simp at hS
  | cons h1 _ ih =>
    intro S hS
    rcases List.mem_cons.1 hS with rfl | hS
    · exact h1
    · exact ih S hS
theorem AllV.mem {P : Program} {gl : Glob} {l : List (Nat × List TSum)} (h : AllV P gl l) : ∀ f, ∀ S ∈ lookS l f, ValidS P gl f S ∧ HasBody P f := by
  induction h with
  | nil => intro f S hS; simp [lookS] at hS
  | cons h1 h2 _ ih =>
    intro f S hS
    unfold lookS at hS
    split at hS
    · rename_i hf
      subst hf
      exact ⟨h1.mem S hS, h2⟩
    · exact ih f S hS
inductive AllI (P : Program) (gl : Glob) : List (Nat × ISum) → Prop
  | nil : AllI P gl []
  | cons {f : Nat} {I : ISum} {r : List (Nat × ISum)} : ValidI P gl f I → HasBody P f → AllI P gl r → AllI P gl ((f, I) :: r)
def lookI : List (Nat × ISum) → Nat → Option ISum
  | [], _ => none
  | (k, x) :: r, t => if k = t then some x else lookI r t
theorem AllI.mem {P : Program} {gl : Glob} {l : List (Nat × ISum)} (h : AllI P gl l) : ∀ f, ∀ I, lookI l f = some I → ValidI P gl f I ∧ HasBody P f := by
  induction h with
  | nil => intro f I hI; simp [lookI] at hI
  | cons h1 h2 _ ih =>
    intro f I hI
    unfold lookI at hI
    split at hI
    · rename_i hf
      subst hf
      cases hI
      exact ⟨h1, h2⟩
    · exact ih f I hI
theorem tok_of {P : Program} {gl : Glob} {l : List (Nat × List TSum)} {i : List (Nat × ISum)} {n : Nat} {a : Nat → Option Loop1} {b : Nat → Option Cut1} (hty : ∀ t i, tyB.find t = some i → tiOf P t = some i) (hcmp : ∀ t i, cmpB.find t = some i → cmpT P t = some i) (h : AllV P gl l) (hi : AllI P gl i) :
    TOK P { baseC gl (lookS l) with inl := lookI i, fuel := n, loops := a, cuts := b } := ⟨hty, hcmp, h.mem, hi.mem⟩
end Go.Sx
namespace Go.Tx
open Go Go.Sx
abbrev KzR : List CK := [.b (.int .u32), .b (.int .u32), .b .str, .b .str, .b .str, .b .bool]
abbrev KzT : List CK := [.b (.int .u32), .b (.int .u32), .b (.int .u32)]
abbrev KzD : List CK := [.b (.int .u32), .s 25 [.int .u32], .b .bool, .b .bool]
abbrev KzN : List CK := [.b .str, .b (.int .u32), .b (.int .u32)]
abbrev KzP : List CK := [.b (.int .u32), .b (.int .u32)]
end Go.Tx

namespace Go.Tx
open Go Go.Sx
def strings_Split (s sep : ByteArray) : Option (List ByteArray) := if s.size < 4294967281 ∧ 1 ≤ sep.size then some (Lib.splitB sep 0 (Lib.countB s sep) s) else none
def utf8_DecodeLastRuneInString (s : ByteArray) : Option (Int × Int) := if s.size ≤ 9223372036854775807 then some ((Lib.decodeLastL s.data.toList).1, (Lib.decodeLastL s.data.toList).2) else none
end Go.Tx
