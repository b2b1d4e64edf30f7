/- Part 32 of the proof of the statement that the last part names; it asks for no condition of its own. Here: PcTab. -/
import Derived.Test.YtgkfbembnlgahaaGreatDoorQbe
set_option linter.unusedVariables false
set_option linter.unusedSimpArgs false
set_option maxRecDepth 100000
set_option maxHeartbeats 0
namespace Go.Pc
open Go Go.Sx Go.Tx
def lstR {T : Type} (r : List T ⊕ Nat) : List T := match r with
  | .inl l => l
  | .inr _ => []
theorem resR_lst {T : Type} (r : List T ⊕ Nat) : ∃ a b, resR r = (a, b, lstR r) := by cases r <;> exact ⟨_, _, rfl⟩

noncomputable def txR : ByteArray := bigK Go.Proofs.Tryz.f11 0
noncomputable def txC : ByteArray := bigK Go.Proofs.Tryz.f11 1
noncomputable def txL : ByteArray := bigK Go.Proofs.Tryz.f11 3
noncomputable def txW : ByteArray := bigK Go.Proofs.Tryz.f11 4
noncomputable def txS : ByteArray := bigK Go.Proofs.Tryz.f11 5
theorem szR : txR.size = 8183 := by kernel_rfl
theorem szC : txC.size = 627 := by kernel_rfl
theorem szL : txL.size = 419 := by kernel_rfl
theorem szW : txW.size = 449 := by kernel_rfl
theorem szS : txS.size = 851 := by kernel_rfl
noncomputable def theR := lstR (readR oneRange (linesOf txR) [] 0)
noncomputable def theC := lstR (readR oneW (linesOf txC) [] 0)
noncomputable def theL := lstR (readR oneRun (linesOf txL) [] 0)
noncomputable def theW := lstR (readR oneRun (linesOf txW) [] 0)
noncomputable def theS := lstR (readR oneNamed (linesOf txS) [] 0)

theorem new_is : tables_New = some (theR, theC, decL, theL, theW, theS) := by
  unfold tables_New
  have h0 := Ranges_is txR (by rw [szR]; omega)
  have h1 := Classes_is txC (by rw [szC]; omega)
  have h2 := Decomps_is decT (by rw [szD]; omega)
  have h3 := Runs_is txL (by rw [szL]; omega)
  have h4 := Runs_is txW (by rw [szW]; omega)
  have h5 := Sets_is txS (by rw [szS]; omega)
  rw [decR_is] at h2
  obtain ⟨a0, b0, e0⟩ := resR_lst (readR oneRange (linesOf txR) [] 0)
  obtain ⟨a1, b1, e1⟩ := resR_lst (readR oneW (linesOf txC) [] 0)
  obtain ⟨a3, b3, e3⟩ := resR_lst (readR oneRun (linesOf txL) [] 0)
  obtain ⟨a4, b4, e4⟩ := resR_lst (readR oneRun (linesOf txW) [] 0)
  obtain ⟨a5, b5, e5⟩ := resR_lst (readR oneNamed (linesOf txS) [] 0)
  rw [e0] at h0
  rw [e1] at h1
  rw [e3] at h3
  rw [e4] at h4
  rw [e5] at h5
  unfold txR at h0
  unfold txC at h1
  unfold decT at h2
  unfold txL at h3
  unfold txW at h4
  unfold txS at h5
  rw [h0, h1, h2, h3, h4, h5]
  rfl

def vis (c : Bool) (d : Dc) : Bool := c || !d.2.2.1
def pad (l : List Int) : List Int := List.take (if l.length ≤ 3 then l.length else 3) l ++ List.drop (if l.length ≤ 3 then l.length else 3) (List.replicate 3 (0 : Int))
def fullOf (D : List Dc) (c : Bool) (p : Int) : List Int := (fullS D c 64 p).getD []

section
variable (l1 : List (Int × Int × ByteArray × ByteArray × ByteArray × Bool)) (l2 : List (Int × Int × Int)) (D : List Dc) (l4 l5 : List (Int × Int × Int)) (l6 : List (ByteArray × Int × Int))
theorem Full_is (hR : Rise D) (hl : D.length ≤ 1000000) (hT : ∀ d ∈ D, d.2.1.length ≤ 1000000) (c : Bool) (hF : ∀ d ∈ D, ∃ l, fullS D c 64 d.1 = some l ∧ l.length ≤ 3) :
    tables_Tables_Full c l1 l2 D l4 l5 l6 = some (D, l1, l2, l4, l5, l6, (D.filter (vis c)).map (fun d => d.1), (D.filter (vis c)).map (fun d => pad (fullOf D c d.1))) := by
  unfold tables_Tables_Full
  have key : runLoop tables_Tables_Full_b5 (c, (D.length : Int), (0 : Int), D, l1, l2, l4, l5, l6, [], []) = some (D, l1, l2, l4, l5, l6, (D.filter (vis c)).map (fun d => d.1), (D.filter (vis c)).map (fun d => pad (fullOf D c d.1))) := by
    refine runLoop_to (fun i : Nat => i ≤ D.length) (fun i : Nat => (c, (D.length : Int), (i : Int), D, l1, l2, l4, l5, l6, ((D.take i).filter (vis c)).map (fun d => d.1), ((D.take i).filter (vis c)).map (fun d => pad (fullOf D c d.1)))) (fun i => D.length - i) _ ?_ 0 (Nat.zero_le _)
    intro i hi
    by_cases hlt : i < D.length
    · left
      refine ⟨i + 1, ?_, hlt, by omega⟩
      have d0 : decide ((i : Int) < (D.length : Int)) = true := decide_eq_true (by omega)
      have d1 : decide ((0 : Int) ≤ (i : Int)) = true := decide_eq_true (by omega)
      have d2 : decide (i < D.length) = true := decide_eq_true hlt
      have hg : D.getD i ((0 : Int), ([], (false, false))) = D[i] := by simp [List.getD, List.getElem?_eq_getElem hlt]
      have hw : IntKind.i64.wrap ((i : Int) + 1) = ((i + 1 : Nat) : Int) := by rw [wrap_i64] <;> omega
      have ht : D.take (i + 1) = D.take i ++ [D[i]] := by rw [List.take_add_one, List.getElem?_eq_getElem hlt]; rfl
      obtain ⟨l, hl1, hl2⟩ := hF D[i] (List.getElem_mem hlt)
      have hful := full_is l1 l2 D l4 l5 l6 hR hl hT c D[i].1 l hl1 (by omega)
      have hfo : fullOf D c D[i].1 = l := by unfold fullOf; rw [hl1]; rfl
      have hGd : (fun d : Dc => pad (fullOf D c d.1)) D[i] = pad l := by
        show pad (fullOf D c D[i].1) = pad l
        rw [hfo]
      generalize (fun d : Dc => pad (fullOf D c d.1)) = G at *
      have hlen : ((D.take i).filter (vis c)).length ≤ i := Nat.le_trans (List.length_filter_le _ _) (by rw [List.length_take]; omega)
      have m1 : decide ((((((D.take i).filter (vis c)).map (fun d => d.1)).length + [D[i].1].length) * 4) ≤ 140737488355328) = true := decide_eq_true (by rw [List.length_map]; simp only [List.length_cons, List.length_nil]; omega)
      have m2 : ∀ x : List Int, decide ((((((D.take i).filter (vis c)).map G).length + [x].length) * 24) ≤ 140737488355328) = true := fun x => decide_eq_true (by rw [List.length_map]; simp only [List.length_cons, List.length_nil]; omega)
      rw [ht]
      rw [List.filter_append, List.map_append, List.map_append]
      cases hC : D[i].2.2.1
      · have hv : vis c D[i] = true := by unfold vis; rw [hC]; simp
        have hfl : List.filter (vis c) [D[i]] = [D[i]] := by simp [hv]
        simp only [tables_Tables_Full_b5, d0, d1, d2, Bool.and_self, if_true, Int.toNat_natCast, hg, hC, Bool.false_eq_true, if_false, hful, Option.bind_some, m1, m2, hw, hfl, List.map_cons, List.map_nil, hGd, pad]
      · cases hc : c
        · subst hc
          have hv : vis false D[i] = false := by unfold vis; rw [hC]; simp
          have hfl : List.filter (vis false) [D[i]] = [] := by simp [hv]
          simp only [tables_Tables_Full_b5, d0, d1, d2, Bool.and_self, if_true, Int.toNat_natCast, hg, hC, Bool.not_false, hw, hfl, List.map_nil, List.append_nil]
        · subst hc
          have hv : vis true D[i] = true := rfl
          have hfl : List.filter (vis true) [D[i]] = [D[i]] := by simp [hv]
          simp only [tables_Tables_Full_b5, d0, d1, d2, Bool.and_self, if_true, Int.toNat_natCast, hg, hC, Bool.not_true, Bool.false_eq_true, if_false, hful, Option.bind_some, m1, m2, hw, hfl, List.map_cons, List.map_nil, hGd, pad]
    · right
      have : i = D.length := by omega
      subst this
      have d0 : decide ((D.length : Int) < (D.length : Int)) = false := decide_eq_false (by omega)
      simp only [tables_Tables_Full_b5, d0, Bool.false_eq_true, if_false, List.take_length]
  rw [key]
  rfl
end
theorem decL_len : decL.length = 506 := by kernel_rfl
theorem decL_rise : Rise decL := by
  have h : ∀ (l : List Dc), (List.zipWith (fun (a b : Dc) => decide (a.1 < b.1)) l l.tail).all (fun x => x) = true → Rise l := by
    intro l
    induction l with
    | nil => intro _; exact List.Pairwise.nil
    | cons a r ih =>
      intro h
      cases r with
      | nil => exact List.pairwise_singleton _ _
      | cons b r =>
        simp only [List.tail_cons, List.zipWith_cons_cons, List.all_cons, Bool.and_eq_true, decide_eq_true_eq] at h
        have h2 := ih (by simpa using h.2)
        refine List.Pairwise.cons ?_ h2
        intro x hx
        rcases List.mem_cons.1 hx with rfl | hx
        · exact h.1
        · exact Int.lt_trans h.1 (List.rel_of_pairwise_cons h2 hx)
  exact h decL riseB
theorem decL_full (c : Bool) : ∀ d ∈ decL, ∃ l, fullS decL c 64 d.1 = some l ∧ l.length ≤ 3 := by
  intro d hd
  have h := List.all_eq_true.1 facts d hd
  simp only [Bool.and_eq_true] at h
  have hk : okFull decL c d.1 = true := by cases c; exact h.2; exact h.1
  unfold okFull at hk
  cases hf : fullS decL c 64 d.1 with
  | none => rw [hf] at hk; cases hk
  | some l => rw [hf] at hk; exact ⟨l, rfl, of_decide_eq_true hk⟩
theorem decL_to : (decL.all fun d => decide (d.2.1.length ≤ 3)) = true := by kernel_rfl
theorem decL_toL : ∀ d ∈ decL, d.2.1.length ≤ 1000000 := fun d hd => by
  have := List.all_eq_true.1 decL_to d hd
  simp only [decide_eq_true_eq] at this
  omega
theorem FullD (c : Bool) : tables_Tables_Full c theR theC decL theL theW theS = some (decL, theR, theC, theL, theW, theS, (decL.filter (vis c)).map (fun d => d.1), (decL.filter (vis c)).map (fun d => pad (fullOf decL c d.1))) :=
  Full_is theR theC decL theL theW theS decL_rise (by rw [decL_len]; omega) decL_toL c (decL_full c)

theorem rise_filter {D : List Dc} (h : Rise D) (q : Dc → Bool) : Rise (D.filter q) := List.Pairwise.filter q h

theorem at469 : ((decL.filter (vis false)).getD 161 zD).1 = 469 := by kernel_rfl
theorem full469 : fullOf decL false 469 = [85, 776, 772] := by kernel_rfl

theorem awake_is : law08_awake = some true := by
  unfold law08_awake
  rw [new_is]
  simp only [Option.bind_some, FullD false]
  have hlen : 161 < (decL.filter (vis false)).length := by
    have : (decL.filter (vis false)).length = 306 := by kernel_rfl
    omega
  have hrise := rise_filter decL_rise (vis false)
  have h469 := at469
  have hfull := full469
  generalize decL.filter (vis false) = V at *
  have hK : (V.map (fun d => d.1)).length = V.length := List.length_map _
  have hRw : (V.map (fun d => pad (fullOf decL false d.1))).length = V.length := List.length_map _
  have hk : ∀ i, i < V.length → (V.map (fun d => d.1)).getD i (0 : Int) = (V.getD i zD).1 := fun i hi => by
    rw [List.getD_eq_getElem?_getD, List.getElem?_map, List.getD_eq_getElem?_getD, List.getElem?_eq_getElem hi]; rfl
  have hr : ∀ i, i < V.length → (V.map (fun d => pad (fullOf decL false d.1))).getD i [] = pad (fullOf decL false (V.getD i zD).1) := fun i hi => by
    rw [List.getD_eq_getElem?_getD, List.getElem?_map, List.getD_eq_getElem?_getD, List.getElem?_eq_getElem hi]; rfl
  have key : runLoop law08_awake_b3 ((((V.map (fun d => d.1)).length : Nat) : Int), (0 : Int), V.map (fun d => d.1), V.map (fun d => pad (fullOf decL false d.1))) = some (.inl true) := by
    refine runLoop_to (fun i : Nat => i ≤ 161) (fun i : Nat => ((((V.map (fun d => d.1)).length : Nat) : Int), (i : Int), V.map (fun d => d.1), V.map (fun d => pad (fullOf decL false d.1)))) (fun i => 161 - i) _ ?_ 0 (Nat.zero_le _)
    intro i hi
    rw [hK]
    have d0 : decide ((i : Int) < (V.length : Int)) = true := decide_eq_true (by omega)
    have d1 : decide ((0 : Int) ≤ (i : Int)) = true := decide_eq_true (by omega)
    have d2 : decide (i < V.length) = true := decide_eq_true (by omega)
    by_cases hlt : i < 161
    · left
      refine ⟨i + 1, ?_, hlt, by omega⟩
      have hne := rise_lt hrise hlt hlen
      have c1 : decide ((V.getD i zD).1 = (469 : Int)) = false := decide_eq_false (by omega)
      have hw : IntKind.i64.wrap ((i : Int) + 1) = ((i + 1 : Nat) : Int) := by rw [wrap_i64] <;> omega
      simp only [law08_awake_b3, hK, d0, d1, d2, Bool.and_self, if_true, Int.toNat_natCast, hk i (by omega), c1, Bool.false_eq_true, if_false, hw]
    · right
      have : i = 161 := by omega
      subst this
      have c1 : decide ((V.getD 161 zD).1 = (469 : Int)) = true := decide_eq_true h469
      have hrow := hr 161 hlen
      rw [h469, hfull] at hrow
      have hp : pad [85, 776, 772] = [85, 776, 772] := by decide
      rw [hp] at hrow
      simp only [law08_awake_b3, hK, hRw, d0, d1, d2, Bool.and_self, if_true, Int.toNat_natCast, hk 161 hlen, c1, hrow]
      rfl
  rw [key]
  rfl
end Go.Pc
