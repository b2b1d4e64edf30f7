/- Part 3 of the proof of the statement that the last part names; it asks for no condition of its own. Here: TxOp2, TxReg. -/
import Derived.Test.YtgkfbembnlgahaaDoorQab
set_option linter.unusedVariables false
set_option linter.unusedSimpArgs false
set_option linter.unnecessarySimpa false
namespace Go.Sx
theorem liftQ_some {r : Res} {q q' : Bool} {x : SVal} {us : List TEnt} (h : liftQ r q = some (q', x, us)) : ∃ p, r = some (p, x, eraH us) ∧ q = q' := by
  unfold liftQ at h
  split at h
  · rename_i p y us'
    split at h
    · rename_i l hl
      simp only [Option.some.injEq, Prod.mk.injEq] at h
      obtain ⟨rfl, rfl, rfl⟩ := h
      exact ⟨p, by rw [liftU_era _ _ hl], rfl⟩
    · cases h
  · cases h

theorem binS_q {op : BinOp} {x y : SVal} {p : Prop} {r : SVal} {us : List Ent} (h : binS op x y = some (p, r, us)) (hq : binQ op x y = true) : p := by
  unfold binS at h
  split at h
  · rename_i k a k' b
    cases op <;> simp only [binQ, ret, decide_eq_true_eq, Bool.not_eq_true', beq_eq_false_iff_ne] at h hq <;> (try split at h) <;> (try cases h) <;> first | trivial | exact hq
  · rename_i a b
    cases op <;> simp only [binQ, ret, decide_eq_true_eq] at h hq <;> (try cases h) <;> first | trivial | exact hq
  · cases h

theorem eqS_q {t : TI} {op : BinOp} {x y : SVal} {p : Prop} {r : SVal} {us : List Ent} (h : eqS t op x y = some (p, r, us)) (hq : binQ op x y = true) : p := by
  unfold eqS at h
  split at h
  · cases op <;> simp only [ret] at h <;> cases h <;> trivial
  · cases op <;> simp only [ret] at h <;> cases h <;> trivial
  · cases op <;> simp only [ret] at h <;> cases h <;> trivial
  · exact binS_q h hq
theorem nilCmp_q {hp : THp} {op : BinOp} {x y : SVal} {p : Prop} {r : SVal} {us : List Ent} (h : nilCmp (findE (eraH hp)) op x y = some (p, r, us)) (hq : nilT hp x y = true) : p := by
  cases x with
  | own b u =>
    have h' : nilE (findE (eraH hp) b) u op y = some (p, r, us) := h
    rw [find_era] at h'
    unfold nilT at hq
    cases hf : findT hp b with
    | none => rw [hf] at h'; simp [nilE] at h'
    | some e =>
      obtain ⟨nm, v, ob⟩ := e
      rw [hf] at h'
      cases ob with
      | row rw' et ks xs =>
        simp only [Option.map_some, eraE, eraO] at h'
        unfold nilE at h'
        split at h'
        · rename_i he
          simp only [Option.some.injEq, Ent.mk.injEq, SObj.row.injEq] at he
          obtain ⟨rfl, rfl, rfl, rfl, rfl, rfl⟩ := he
          simp only [hf] at hq
          simp only [decide_eq_true_eq] at hq
          have hne : xs.map (encT ks) ≠ [] := fun e => by rw [List.map_eq_nil_iff] at e; rw [e] at hq; simp at hq
          split at h'
          · cases op <;> simp only [Option.some.injEq, Prod.mk.injEq] at h' <;> first | (cases h'; done) | skip
            · obtain ⟨rfl, _, _⟩ := h'; exact hne
            · obtain ⟨rfl, _, _⟩ := h'; exact hne
          · cases h'
        · cases h'
      | cells cs => simp [nilE, eraE, eraO] at h'
      | str s p => simp [nilE, eraE, eraO] at h'
  | _ => cases h
theorem eqAgg_q {op : BinOp} {l : List LK} {x y : List SVal} {p : Prop} {r : SVal} {us : List Ent} (h : eqAgg op l x y = some (p, r, us)) : p := by
  unfold eqAgg at h
  split at h
  · cases op <;> simp only [ret] at h <;> cases h <;> trivial
  · cases h
theorem eqIface_q {op : BinOp} {lit : Bool} {x y : SVal} {p : Prop} {r : SVal} {us : List Ent} (h : eqIface op lit x y = some (p, r, us)) : p := by
  unfold eqIface at h
  split at h
  · cases op <;> simp only [ret] at h <;> cases h <;> trivial
  · split at h
    · cases op <;> simp only [ret] at h <;> cases h <;> trivial
    · cases h
  · cases h

theorem ret_true {v : SVal} {p : Prop} {x : SVal} {us : List Ent} (h : ret v = some (p, x, us)) : p := by
  simp only [ret, Option.some.injEq, Prod.mk.injEq] at h
  rw [← h.1]; trivial
theorem some_true {v : SVal} {p : Prop} {x : SVal} {us us' : List Ent} (h : some (True, v, us') = some (p, x, us)) : p := by
  simp only [Option.some.injEq, Prod.mk.injEq] at h
  rw [← h.1]; trivial
theorem none_res {α : Type _} {x : α} {q : Prop} (h : none = some x) : q := by cases h
theorem bytes_enc (l : List UInt8) : ((l.map fun b => (b.toNat : Int)) : List (rowT [.b (.int .u8)])).map (encT [.b (.int .u8)]) = l.map fun b => [Cell.v (.int .u8 b.toNat)] := by
  induction l with
  | nil => rfl
  | cons a r ih => exact congrArg ([Cell.v (.int .u8 a.toNat)] :: ·) ih
theorem castRow {ks ks' : List CK} (h : ks' = ks) (ys : List (rowT ks')) : (h ▸ ys : List (rowT ks)).map (encT ks) = ys.map (encT ks') := by subst h; rfl
theorem builtT_era {c : TCtx} {u : Ctx} (hu : u.ty = c.ty) {hp : THp} {d : Nat} {b : Builtin} {tys : List TypeId} {args : List SVal} {q : Bool} {x : SVal} {us : List TEnt} (h : builtT c hp d b tys args = some (q, x, us)) :
    Same (evBuiltin u (findE (eraH hp)) d b tys args) q x us := by
  intro hq
  subst hq
  unfold builtT at h
  split at h
  · rename_i b' u' t
    split at h
    · rename_i z1 z2 e z3 rw' et ks xs hty hob
      cases h
      refine ⟨True, ?_, trivial⟩
      simp only [evBuiltin, hu, hty, objT_map hob, eraO, ret, List.length_map]
      rfl
    · cases h
  · rename_i ad n cp t
    split at h
    · rename_i z1 z2 e z3 hty
      cases h
      refine ⟨True, ?_, trivial⟩
      simp only [evBuiltin, hu, hty, ret]
      rfl
    · cases h
  · rename_i s t
    split at h
    · rename_i z1 z2 z3 hty
      cases h
      refine ⟨True, ?_, trivial⟩
      simp only [evBuiltin, hu, hty, ret]
      rfl
    · cases h
  · rename_i b1 u1 b2 u2 t t'
    split at h
    · rename_i z1 z2 e z3 et ks xs rw' et' ks' ys hty hob1 hob2
      split at h
      · rename_i te hte
        split at h
        · rename_i hk
          split at h
          · rename_i hcond
            simp only [decide_eq_true_eq] at hcond
            obtain ⟨c1, c2, c3, c4, c5, c6⟩ := hcond
            simp only [Option.some.injEq, Prod.mk.injEq, decide_eq_true_eq] at h
            obtain ⟨h1, rfl, rfl⟩ := h
            refine ⟨((xs.map (encT ks)).length + (ys.map (encT ks')).length) * te.bytes ≤ 140737488355328, ?_, by rw [List.length_map, List.length_map]; exact h1⟩
            simp only [evBuiltin, hu, hty, objT_map hob1, objT_map hob2, eraO, hte]
            rw [if_pos ⟨c1, c2, by rw [hk], c3, c4, c5, c6⟩]
            simp only [eraH, List.map_cons, List.map_nil, eraE, eraO, List.map_append, castRow hk ys]
          · cases h
        · cases h
      · cases h
    · cases h
  · rename_i b2 u2 t t'
    split at h
    · rename_i z1 z2 e z3 rw' et' ks ys hty hob2 hnone
      split at h
      · rename_i te hte
        split at h
        · rename_i hcond
          simp only [decide_eq_true_eq] at hcond
          obtain ⟨c1, c2, c3, c4, c5⟩ := hcond
          simp only [Option.some.injEq, Prod.mk.injEq, decide_eq_true_eq] at h
          obtain ⟨h1, rfl, rfl⟩ := h
          refine ⟨(ys.map (encT ks)).length * te.bytes ≤ 140737488355328, ?_, by rw [List.length_map]; exact h1⟩
          simp only [evBuiltin, hu, hty, objT_map hob2, findT_none hnone, eraO, hte]
          rw [if_pos ⟨c1, c2, c3, c4, c5⟩]
          simp only [eraH, List.map_cons, List.map_nil, eraE, eraO, c1]
        · cases h
      · cases h
    · cases h
  · rename_i b1 u1 b2 u2 t t'
    split at h
    · rename_i z1 z2 e z3 et ks xs rw' et' ks' ys hty hob1 hob2
      split at h
      · rename_i te hte
        split at h
        · rename_i hk
          split at h
          · rename_i hcond
            simp only [decide_eq_true_eq] at hcond
            obtain ⟨c1, c2⟩ := hcond
            simp only [Option.some.injEq, Prod.mk.injEq] at h
            obtain ⟨_, rfl, rfl⟩ := h
            refine ⟨True, ?_, trivial⟩
            simp only [evBuiltin, hu, hty, objT_map hob1, objT_map hob2, eraO, hte]
            rw [if_pos ⟨c1, by rw [hk], c2⟩]
            simp only [eraH, List.map_cons, List.map_nil, eraE, eraO, List.map_append, List.map_take, List.map_drop, castRow hk ys, List.length_map]
          · cases h
        · cases h
      · cases h
    · cases h
  · cases h
    exact ⟨True, by simp only [evBuiltin, ret]; rfl, trivial⟩
  · cases h
    exact ⟨True, by simp only [evBuiltin, ret]; rfl, trivial⟩
  · cases h

theorem zip_cells (ks : List CK) (x : rowT ks) (l : List Cell) (h : l.length = ks.length) : splice (encT ks x) 0 l = l := by
  simp only [splice, List.take_zero, List.nil_append, Nat.zero_add]
  rw [List.drop_eq_nil_of_le (by rw [encT_length]; omega), List.append_nil]

theorem shut_length {hp : HpF} : ∀ (x : List SVal) (l : List Cell) (us : List Ent), shutCells hp x = some (l, us) → l.length = x.length
  | [], l, us, h => by cases h; rfl
  | .v y :: r, l, us, h => by
    simp only [shutCells] at h
    split at h
    · rename_i l' u' hl; cases h; simp [shut_length r l' _ hl]
    · cases h
  | .own b u :: r, l, us, h => by
    simp only [shutCells] at h
    split at h
    · split at h
      · rename_i ys l' us' _ hl; cases h; simp [shut_length r l' _ hl]
      · cases h
    · cases h
  | .ptr _ _ _ :: _, _, _, h => by simp [shutCells] at h
  | .elt _ _ _ _ _ :: _, _, _, h => by simp [shutCells] at h
  | .agg _ :: _, _, _, h => by simp [shutCells] at h
  | .tup _ :: _, _, _, h => by simp [shutCells] at h
  | .fn _ _ _ :: _, _, _, h => by simp [shutCells] at h
  | .ifc :: _, _, _, h => by simp [shutCells] at h
  | .undef :: _, _, _, h => by simp [shutCells] at h

theorem buildT_era {hp : THp} {te : TI} {ks : List CK} (hks : ks.length = te.size) (h0 : 0 < te.size) : ∀ (n i : Nat) (l : List (Nat × SVal)) (xs : List (rowT ks)) (us : List TEnt), buildT hp ks n i l = some (xs, us) →
    evOp.buildRow (findE (eraH hp)) te n i l = some (xs.map (encT ks), eraH us)
  | 0, i, [], xs, us, h => by cases h; rfl
  | 0, i, _ :: _, xs, us, h => by simp [buildT] at h
  | n + 1, i, [], xs, us, h => by simp [buildT] at h
  | n + 1, i, (j, x) :: r, xs, us, h => by
    simp only [buildT] at h
    split at h
    · rename_i hcond
      simp only [Bool.and_eq_true, decide_eq_true_eq, beq_iff_eq] at hcond
      obtain ⟨⟨h1, h2⟩, h3⟩ := hcond
      split at h
      · rename_i y us1 xs' us2 hs hb
        cases h
        obtain ⟨l, e1, e2⟩ := spliceC_era ks _ 0 _ y us1 hs
        have hl := shut_length _ _ _ e1
        rw [zip_cells ks _ l (by rw [hl]; exact h2)] at e2
        simp only [evOp.buildRow]
        rw [if_pos ⟨h1, by rw [h2, hks], h0, h3⟩, e1, buildT_era hks h0 n (i + 1) r xs' us2 hb]
        simp only [List.map_cons, e2, eraH, List.map_append]
      · cases h
    · cases h

theorem shut_vals {hp : HpF} : ∀ (l : List Value), shutCells hp (l.map .v) = some (l.map .v, [])
  | [] => rfl
  | x :: r => by simp only [List.map_cons, shutCells, shut_vals r]

theorem rowInts_enc' (k : IntKind) : ∀ xs : List Int, rowInts k (xs.map fun n => [Cell.v (.int k n)]) = some xs
  | [] => rfl
  | n :: r => by
    simp only [List.map_cons, rowInts, if_true]
    rw [rowInts_enc' k r]
theorem rowInts_enc (k : IntKind) (xs : List (rowT [.b (.int k)])) : rowInts k (xs.map (encT [.b (.int k)])) = some xs := rowInts_enc' k xs

theorem tvOp_era {c : TCtx} {u : Ctx} (hu : u.ty = c.ty) (hg : u.gl = c.gl) {ev : Operand → SVal} {hp : THp} {o : Oper} {q : Bool} {x : SVal} {us : List TEnt} (h : tvOp c u ev hp o = some (q, x, us)) :
    Same (evOp u ev (findE (eraH hp)) o) q x us := by
  intro hq
  subst hq
  have lifted : ∀ q, liftQ (evOp u ev (findE (eraH hp)) o) q = some (true, x, us) → ∃ p, evOp u ev (findE (eraH hp)) o = some (p, x, eraH us) ∧ q = true := fun q hl => liftQ_some hl
  unfold tvOp at h
  simp only at h
  split at h
  · rename_i t a ho
    split at h
    · rename_i i hty
      obtain ⟨p, h1, h2⟩ := loadT_era h rfl
      exact ⟨p, by simp only [evOp, ho, hu, hty, hg]; exact h1, h2⟩
    · cases h
  · rename_i t a y ho
    split at h
    · rename_i i hty
      obtain ⟨p, h1, h2⟩ := storeT_era h rfl
      exact ⟨p, by simp only [evOp, ho, hu, hty]; exact h1, h2⟩
    · cases h
  · rename_i op t y z ty ho
    obtain ⟨p, h1, h2⟩ := lifted _ h
    refine ⟨p, h1, ?_⟩
    simp only [evOp, ho] at h1
    split at h1
    · exact eqAgg_q h1
    · rw [Bool.and_eq_true] at h2
      split at h1
      · exact eqIface_q h1
      · exact nilCmp_q h1 h2.1
      · exact eqS_q h1 h2.2
      · cases h1
  · rename_i s t y ho
    split at h
    · rename_i z1 z2 z3 z4 z5 e z6 z hs ht hy
      split at h
      · rename_i y1 y2 y3 he hn
        simp only [Option.some.injEq, Prod.mk.injEq, decide_eq_true_eq] at h
        obtain ⟨h1, rfl, rfl⟩ := h
        refine ⟨z.size ≤ 9223372036854775807, ?_, h1⟩
        simp only [evOp, ho, hu, hs, ht, hy, he, findT_none hn]
        exact congrArg (fun t => some (z.size ≤ 9223372036854775807, SVal.own (slotName (o.dst.getD 0)) 0, [(⟨slotName (o.dst.getD 0), 0, SObj.row false e 1 t⟩ : Ent)])) (bytes_enc z.data.toList).symm
      · cases h
    · rename_i z1 z2 e z3 z4 z5 z6 b u' hs ht hy
      split at h
      · rename_i y1 y2 y3 rw' et xs he hob
        cases h
        refine ⟨True, ?_, trivial⟩
        have hi : rowInts .u8 (xs.map (encT [.b (.int .u8)])) = some xs := rowInts_enc .u8 xs
        simp only [evOp, ho, hu, hs, ht, hy, he, objT_map hob, eraO]
        rw [hi]
        rfl
      · cases h
    · rename_i hne hne2
      obtain ⟨p, h1, h2⟩ := lifted _ h
      refine ⟨p, h1, ?_⟩
      simp only [evOp, ho] at h1
      repeat' split at h1
      all_goals first
        | exact ret_true h1
        | (cases h1; done)
        | (exfalso; exact hne _ _ _ _ _ _ _ _ (by rw [← hu]; assumption) (by rw [← hu]; assumption) (by assumption))
  · rename_i t y f ho
    split at h
    · rename_i i cs hty hy
      split at h
      · rename_i fs hfs
        split at h
        · rename_i o' w hfa
          split at h
          · rename_i j hj
            obtain ⟨p, h1, h2⟩ := lifted _ h
            refine ⟨p, h1, ?_⟩
            simp only [decide_eq_true_eq] at h2
            simp only [evOp, ho, hu, hty, hy, hfs, hfa, hj] at h1
            split at h1
            · simp only [Option.some.injEq, Prod.mk.injEq] at h1
              rw [← h1.1]; exact h2
            · cases h1
          · cases h
        · cases h
      · cases h
    · cases h
  · rename_i t y z ho
    split at h
    · cases h
    · rename_i z1 z2 e z3 b u' k n hty hy hz
      split at h
      · rename_i rw' et ks xs te hob hte
        split at h
        · rename_i hk
          simp only [Option.some.injEq, Prod.mk.injEq, Bool.and_eq_true, decide_eq_true_eq] at h
          obtain ⟨⟨h1, h2⟩, rfl, rfl⟩ := h
          refine ⟨0 ≤ n ∧ n < (xs.map (encT ks)).length, ?_, h1, by rw [List.length_map]; exact h2⟩
          simp only [evOp, ho, hu, hty, hy, hz, objT_map hob, eraO, hte, if_pos hk]
          rfl
        · cases h
      · cases h
    · rename_i z1 z2 m e z3 b u' off k n hty hy hz
      split at h
      · rename_i j hj
        simp only [Option.some.injEq, Prod.mk.injEq, Bool.and_eq_true, decide_eq_true_eq] at h
        obtain ⟨⟨h1, h2⟩, rfl, rfl⟩ := h
        exact ⟨0 ≤ n ∧ n < m, by simp only [evOp, ho, hu, hty, hy, hz, hj]; rfl, h1, h2⟩
      · cases h
    · cases h
  · rename_i t y z ho
    split at h
    · rename_i z1 z2 z3 s k n hty hy hz
      simp only [Option.some.injEq, Prod.mk.injEq, Bool.and_eq_true, decide_eq_true_eq] at h
      obtain ⟨⟨h1, h2⟩, rfl, rfl⟩ := h
      exact ⟨0 ≤ n ∧ n < s.size, by simp only [evOp, ho, hu, hty, hy, hz]; rfl, h1, h2⟩
    · rename_i z1 z2 m e z3 cs k n hty hy hz
      split at h
      · rename_i j hj
        split at h
        · rename_i y' hy'
          simp only [Option.some.injEq, Prod.mk.injEq, Bool.and_eq_true, decide_eq_true_eq] at h
          obtain ⟨⟨⟨h1, h2⟩, h3⟩, rfl, rfl⟩ := h
          exact ⟨0 ≤ n ∧ n < m ∧ n.toNat * j.size + j.size ≤ cs.length, by simp only [evOp, ho, hu, hty, hy, hz, hj, hy']; rfl, h1, h2, h3⟩
        · cases h
      · cases h
    · cases h
  · rename_i t y lo hi ho
    split at h
    · rename_i z1 z2 z3 s hty hy
      split at h
      · rename_i hlo hhi
        cases h
        exact ⟨True, by simp only [evOp, ho, hu, hty, hy, hlo, hhi, ret]; rfl, trivial⟩
      · rename_i k a hlo hhi
        simp only [Option.some.injEq, Prod.mk.injEq, Bool.and_eq_true, decide_eq_true_eq] at h
        obtain ⟨⟨h1, h2⟩, rfl, rfl⟩ := h
        exact ⟨0 ≤ a ∧ a ≤ s.size, by simp only [evOp, ho, hu, hty, hy, hlo, hhi]; rfl, h1, h2⟩
      · rename_i k b hlo hhi
        simp only [Option.some.injEq, Prod.mk.injEq, Bool.and_eq_true, decide_eq_true_eq] at h
        obtain ⟨⟨h1, h2⟩, rfl, rfl⟩ := h
        exact ⟨0 ≤ b ∧ b ≤ s.size, by simp only [evOp, ho, hu, hty, hy, hlo, hhi]; rfl, h1, h2⟩
      · rename_i k a k' b hlo hhi
        simp only [Option.some.injEq, Prod.mk.injEq, Bool.and_eq_true, decide_eq_true_eq] at h
        obtain ⟨⟨⟨h1, h2⟩, h3⟩, rfl, rfl⟩ := h
        exact ⟨0 ≤ a ∧ a ≤ b ∧ b ≤ s.size, by simp only [evOp, ho, hu, hty, hy, hlo, hhi]; rfl, h1, h2, h3⟩
      · cases h
    · rename_i z1 z2 e z3 b u' hty hy
      split at h
      · rename_i te rw' et ks xs hte hob hn
        split at h
        · rename_i A B hA hB
          split at h
          · rename_i hk
            simp only [Option.some.injEq, Prod.mk.injEq, Bool.and_eq_true, decide_eq_true_eq] at h
            obtain ⟨⟨⟨h1, h2⟩, h3⟩, rfl, rfl⟩ := h
            refine ⟨0 ≤ A ∧ A ≤ B ∧ B ≤ (xs.map (encT ks)).length, ?_, h1, h2, by rw [List.length_map]; exact h3⟩
            simp only [evOp, ho, hu, hty, hy, hte, objT_map hob, eraO, findT_none hn, hA, List.length_map, hB, if_pos hk]
            simp only [eraH, List.map_cons, List.map_nil, eraE, eraO, List.map_take, List.map_drop]
          · cases h
        · cases h
      · cases h
    · rename_i z1 z2 m e z3 b u' hty hy
      split at h
      · rename_i sz z4 k z5 cs hte hob hn
        split at h
        · rename_i A B ns hA hB hns
          split at h
          · rename_i hk
            simp only [Option.some.injEq, Prod.mk.injEq, Bool.and_eq_true, decide_eq_true_eq] at h
            obtain ⟨⟨⟨h1, h2⟩, h3⟩, rfl, rfl⟩ := h
            refine ⟨0 ≤ A ∧ A ≤ B ∧ B ≤ m, ?_, h1, h2, h3⟩
            simp only [evOp, ho, hu, hty, hy, hte, objT_map hob, eraO, findT_none hn, hA, hB, hns, if_pos hk]
            rfl
          · cases h
        · cases h
      · cases h
    · cases h
  · rename_i t l k ho
    split at h
    · rename_i z1 z2 e z3 k1 n k2 m hty hl hk
      split at h
      · rename_i te ks hte hkd hn
        split at h
        · rename_i z us' hz
          split at h
          · rename_i hcond
            simp only [decide_eq_true_eq] at hcond
            obtain ⟨c1, c2, c3, c4⟩ := hcond
            simp only [Option.some.injEq, Prod.mk.injEq, Bool.and_eq_true, decide_eq_true_eq] at h
            obtain ⟨⟨⟨h1, h2⟩, h3⟩, rfl, rfl⟩ := h
            refine ⟨0 ≤ n ∧ n ≤ m ∧ te.bytes * m ≤ 140737488355328, ?_, h1, h2, h3⟩
            simp only [evOp, ho, hu, hty, hl, hk, hte, findT_none hn]
            rw [if_pos ⟨c1, c2, c3⟩]
            obtain ⟨cl, e1, e2⟩ := spliceC_era ks _ 0 _ z us' hz
            rw [shut_vals] at e1
            simp only [Option.some.injEq, Prod.mk.injEq] at e1
            obtain ⟨rfl, _⟩ := e1
            rw [zip_cells ks _ _ (by rw [List.length_map, c3, c4])] at e2
            simp only [eraH, List.map_cons, List.map_nil, eraE, eraO, List.map_replicate, e2, c4]
          · cases h
        · cases h
      · cases h
    · cases h
  · rename_i t len parts ho
    split at h
    · rename_i z1 z2 e z3 hty hn
      split at h
      · rename_i te ks hte hkd
        split at h
        · rename_i hcond
          simp only [decide_eq_true_eq] at hcond
          obtain ⟨c1, c2, c3, c4⟩ := hcond
          split at h
          · rename_i xs us' hb
            cases h
            refine ⟨True, ?_, trivial⟩
            simp only [evOp, ho, hu, hty, findT_none hn, hte]
            rw [if_pos ⟨c1, c2, c3⟩, buildT_era c4 c2 _ _ _ _ _ hb]
            simp only [eraH, List.map_append, List.map_cons, List.map_nil, eraE, eraO, c4]
          · cases h
        · cases h
      · cases h
    · cases h
  · rename_i k ho
    split at h
    · rename_i b hc
      obtain ⟨p, h1, h2⟩ := builtT_era hu h rfl
      exact ⟨p, by simp only [evOp, ho, hc]; exact h1, h2⟩
    · cases h
  · rename_i n1 n2 n3 n4 n5 n6 n7 n8 n9 n10 n11
    obtain ⟨p, h1, h2⟩ := lifted _ h
    refine ⟨p, h1, ?_⟩
    cases ho : o.op with
    | load t a => exact (n1 _ _ ho).elim
    | store t a x => exact (n2 _ _ _ ho).elim
    | binOp a b c d e => exact (n3 _ _ _ _ _ ho).elim
    | convert a b c => exact (n4 _ _ _ ho).elim
    | field a b c => exact (n5 _ _ _ ho).elim
    | indexAddr a b c => exact (n6 _ _ _ ho).elim
    | index a b c => exact (n7 _ _ _ ho).elim
    | slice a b lo hi mx => cases mx with
      | none => exact (n8 _ _ _ _ ho).elim
      | some m => simp only [evOp, ho] at h1; cases h1
    | makeSlice a b c => exact (n9 _ _ _ ho).elim
    | buildSlice a b c => exact (n10 _ _ _ ho).elim
    | call k => exact (n11 _ ho).elim
    | makeFunc fn a b =>
      unfold evOp at h1
      rw [ho] at h1
      cases fn <;> dsimp only at h1 <;> first
        | exact ret_true h1
        | exact none_res h1
    | _ =>
      unfold evOp at h1
      rw [ho] at h1
      dsimp only at h1
      repeat' split at h1
      all_goals first
        | exact ret_true h1
        | exact some_true h1
        | exact none_res h1
end Go.Sx

namespace Go.Sx
theorem enc_dec (k : BK) (t : k.T) : k.dec (k.enc t) = some t := by cases k <;> simp [BK.dec, BK.enc]
theorem encB_cons (k : BK) (bs : List BK) (x : k.T) (y : rowB bs) : encB (k :: bs) (Tup.cons k bs x y) = k.enc x :: encB bs y := by
  unfold encB
  simp only [Tup.toL, List.map_cons, Tup.head_cons, Tup.tail_cons]
theorem encB_parts (k : BK) (bs : List BK) (t : rowB (k :: bs)) : encB (k :: bs) t = k.enc (Tup.head k bs t) :: encB bs (Tup.tail k bs t) := rfl
theorem decB_enc : ∀ (bs : List BK) (t : rowB bs), decB bs (encB bs t) = some t
  | [], _ => rfl
  | k :: bs, t => by
    rw [encB_parts]
    simp only [decB, enc_dec, decB_enc bs]
    rw [Tup.cons_eta]
theorem decBs_enc (bs : List BK) : ∀ (l : List (rowB bs)), decBs bs (l.map (encB bs)) = some l
  | [] => rfl
  | x :: r => by simp only [List.map_cons, decBs, decB_enc, decBs_enc bs r]
theorem decCell_enc (k : CK) (t : k.T) : decCell k (k.enc t) = some t := by
  cases k with
  | b x => exact enc_dec x t
  | s et bs =>
    show (if et = et ∧ bs.length = bs.length then decBs bs (List.map (encB bs) t) else none) = some t
    rw [if_pos ⟨rfl, rfl⟩]
    exact decBs_enc bs t
theorem decCells_enc : ∀ (ks : List CK) (t : rowT ks), decCells ks (encT ks t) = some t
  | [], _ => rfl
  | k :: ks, t => by
    rw [encT_parts]
    simp only [decCells, decCell_enc, decCells_enc ks]
    rw [Tup.cons_eta]
theorem decRows_enc (ks : List CK) : ∀ (l : List (rowT ks)), decRowsC ks (l.map (encT ks)) = some l
  | [] => rfl
  | x :: r => by simp only [List.map_cons, decRowsC, decCells_enc, decRows_enc ks r]
theorem decEnts_era (kd : Nat → Option (List CK)) : ∀ (l : List TEnt), kdOk kd l = true → decEnts kd (eraH l) = some l
  | [], _ => rfl
  | ⟨n, v, .cells cs⟩ :: r, h => by
    have ih := decEnts_era kd r h
    simp only [eraH] at ih
    simp only [eraH, List.map_cons, eraE, eraO, decEnts, ih]
  | ⟨n, v, .str s p⟩ :: r, h => by
    have ih := decEnts_era kd r h
    simp only [eraH] at ih
    simp only [eraH, List.map_cons, eraE, eraO, decEnts, ih]
  | ⟨n, v, .row rw et ks xs⟩ :: r, h => by
    simp only [kdOk, Bool.and_eq_true, beq_iff_eq] at h
    have ih := decEnts_era kd r h.2
    simp only [eraH] at ih
    simp only [eraH, List.map_cons, eraE, eraO, decEnts, h.1, if_true, decRows_enc, ih]

theorem dec_encB : ∀ (bs : List BK) (l : List Value) (t : rowB bs), decB bs l = some t → encB bs t = l
  | [], [], t, h => rfl
  | [], _ :: _, t, h => by simp [decB] at h
  | _ :: _, [], t, h => by simp [decB] at h
  | k :: bs, v :: r, t, h => by
    simp only [decB] at h
    split at h
    · rename_i x y hx hy
      cases h
      rw [encB_cons, dec_enc _ _ _ hx, dec_encB bs r y hy]
    · cases h
theorem dec_encBs (bs : List BK) : ∀ (l : List (List Value)) (t : List (rowB bs)), decBs bs l = some t → t.map (encB bs) = l
  | [], t, h => by cases h; rfl
  | x :: r, t, h => by
    simp only [decBs] at h
    split at h
    · rename_i y l hy hl
      cases h
      rw [List.map_cons, dec_encB _ _ _ hy, dec_encBs bs r l hl]
    · cases h
theorem dec_cellB (x : BK) (v : Value) (t : x.T) (h : x.dec v = some t) : CK.enc (.b x) t = Cell.v v := by
  show Cell.v (x.enc t) = Cell.v v
  rw [dec_enc x v t h]
theorem dec_cellS (et : Nat) (bs : List BK) (et' sz : Nat) (xs : List (List Value)) (t : List (rowB bs)) (h : (if et' = et ∧ sz = bs.length then decBs bs xs else none) = some t) : CK.enc (.s et bs) t = Cell.s et' sz xs := by
  show Cell.s et bs.length (t.map (encB bs)) = Cell.s et' sz xs
  by_cases hc : et' = et ∧ sz = bs.length
  · rw [if_pos hc] at h
    rw [dec_encBs bs xs t h, hc.1, hc.2]
  · rw [if_neg hc] at h
    cases h
theorem dec_encCell : (k : CK) → (c : Cell) → (t : k.T) → (h : decCell k c = some t) → k.enc t = c
  | .b x, .v v, t, h => dec_cellB x v t h
  | .s et bs, .s et' sz xs, t, h => dec_cellS et bs et' sz xs t h
  | .b x, .s _ _ _, t, h => by cases h
  | .s _ _, .v _, t, h => by cases h
theorem dec_encCells : ∀ (ks : List CK) (l : List Cell) (t : rowT ks), decCells ks l = some t → encT ks t = l
  | [], [], t, h => rfl
  | [], _ :: _, t, h => by simp [decCells] at h
  | _ :: _, [], t, h => by simp [decCells] at h
  | k :: ks, v :: r, t, h => by
    simp only [decCells] at h
    split at h
    · rename_i x y hx hy
      cases h
      rw [encT_cons, dec_encCell _ _ _ hx, dec_encCells ks r y hy]
    · cases h
theorem dec_encRows (ks : List CK) : ∀ (l : List (List Cell)) (t : List (rowT ks)), decRowsC ks l = some t → t.map (encT ks) = l
  | [], t, h => by cases h; rfl
  | x :: r, t, h => by
    simp only [decRowsC] at h
    split at h
    · rename_i y l hy hl
      cases h
      rw [List.map_cons, dec_encCells _ _ _ hy, dec_encRows ks r l hl]
    · cases h
theorem era_decEnts (kd : Nat → Option (List CK)) : ∀ (l : List Ent) (t : List TEnt), decEnts kd l = some t → eraH t = l
  | [], t, h => by cases h; rfl
  | ⟨n, v, .cells cs⟩ :: r, t, h => by
    simp only [decEnts] at h
    split at h
    · rename_i l hl
      cases h
      have := era_decEnts kd r l hl
      simp only [eraH] at this
      simp only [eraH, List.map_cons, eraE, eraO, this]
    · cases h
  | ⟨n, v, .str s p⟩ :: r, t, h => by
    simp only [decEnts] at h
    split at h
    · rename_i l hl
      cases h
      have := era_decEnts kd r l hl
      simp only [eraH] at this
      simp only [eraH, List.map_cons, eraE, eraO, this]
    · cases h
  | ⟨n, v, .row rw et sz xs⟩ :: r, t, h => by
    simp only [decEnts] at h
    split at h
    · rename_i ks hk
      split at h
      · rename_i hsz
        split at h
        · rename_i ys l hy hl
          cases h
          have := era_decEnts kd r l hl
          simp only [eraH] at this
          simp only [eraH, List.map_cons, eraE, eraO, this, dec_encRows _ _ _ hy, hsz]
        · cases h
      · cases h
    · cases h

def ValidAt (P : Program) (gl : Glob) (f : FuncId) (args : List SVal) (ents : List Ent) (r : SVal) (us : List Ent) : Prop :=
  ∀ (Fr RO : Nat → Prop) (ρ : Rho) (own : Foot) (w : World) (vals : Array Value),
    GL gl Fr RO w → HRel Fr RO ρ own (findE ents) w → (∀ b u, ρ b u ≠ none → u = 0 ∧ b < ents.length) → (∀ b, (findE ents b).isSome ↔ b < ents.length) → DL ρ args vals.toList →
    Calls P f vals w fun e w' => ∃ v ρ' own' RO', e = .returned v ∧ HRel Fr RO' ρ' own' (putsF (findE ents) us) w' ∧ D ρ' r v ∧
      (∀ b, b < ents.length → (∃ e, putsF (findE ents) us b = some e) ∧ ∀ x, ρ' b 0 = some x → ρ b 0 = some x) ∧ (∀ k, RO k → RO' k) ∧ AdvD (Str gl) (fun k => RO k ∨ Fr k) w w'

def ValidS (P : Program) (gl : Glob) (f : FuncId) (S : TSum) : Prop :=
  ∀ args ents v o, unCall S.pat args ents = some v → S.F v = some o → ValidAt P gl f args (eraH ents) (S.res o).1 (eraH (S.res o).2)

def ValidI (P : Program) (gl : Glob) (f : FuncId) (I : ISum) : Prop :=
  ∀ args ents r us, I.at_ args ents = some (r, us) → ValidAt P gl f args (eraH ents) r (eraH us)

theorem valid_toSum {P : Program} {gl : Glob} {f : FuncId} {kd : Nat → Option (List CK)} {i : Option ISum} {l : List TSum} (hi : ∀ I, i = some I → ValidI P gl f I) (h : ∀ S ∈ l, ValidS P gl f S) : Valid P gl f (toSum kd i l) := by
  intro args ents p r us hs hp
  unfold toSum at hs
  split at hs
  · rename_i tents ht
    have he := era_decEnts _ _ _ ht
    subst he
    clear ht
    split at hs
    · rename_i I
      split at hs
      · rename_i r' us' ha
        simp only [Option.some.injEq, Prod.mk.injEq] at hs
        obtain ⟨_, rfl, rfl⟩ := hs
        exact hi I rfl args tents r' us' ha
      · cases hs
    · clear hi
      induction l with
      | nil => simp [trySums] at hs
      | cons S l ih =>
        simp only [trySums] at hs
        split at hs
        · rename_i v hv
          split at hs
          · rename_i o ho
            simp only [Option.some.injEq, Prod.mk.injEq] at hs
            obtain ⟨_, rfl, rfl⟩ := hs
            exact h S (by simp) args tents v o hv ho
          · cases hs
        · exact ih (fun S hS => h S (by simp [hS])) hs
  · cases hs

structure TOK (P : Program) (c : TCtx) : Prop where
  ty : ∀ t i, c.ty t = some i → tiOf P t = some i
  cmp : ∀ t l, c.cmp t = some l → cmpT P t = some l
  sum : ∀ f S, S ∈ c.sum f → ValidS P c.gl f S ∧ HasBody P f
  inl : ∀ f I, c.inl f = some I → ValidI P c.gl f I ∧ HasBody P f

theorem TOK.ctx {P : Program} {c : TCtx} (h : TOK P c) : CtxOK P (unC c) := by
  refine ⟨h.ty, h.cmp, fun f s hs => ?_⟩
  simp only [unC, sumC] at hs
  split at hs
  · cases hs
  · rename_i hne
    cases hs
    refine ⟨valid_toSum (fun I hI => (h.inl f I hI).1) (fun S hS => (h.sum f S hS).1), ?_⟩
    cases hi : c.inl f with
    | some I => exact (h.inl f I hi).2
    | none =>
      cases hl : c.sum f with
      | nil => exact (hne hi hl).elim
      | cons S l => exact (h.sum f S (by rw [hl]; simp)).2

theorem mapT_era (f : Nat → Nat → Nat × Nat) (o : TObj) : eraO (mapT f o) = mapRO f (eraO o) := by cases o <;> rfl
theorem number_era (acc : List Ent) : ∀ (l : List TEnt) (j : Nat), eraH (numberT acc j l) = number acc j (eraH l)
  | [], j => rfl
  | e :: r, j => by
    have := number_era acc r (j + 1)
    simp only [eraH] at this
    simp only [numberT, eraH, List.map_cons, number, eraE, mapT_era, this]
theorem out_era (acc : List Ent) (d : Nat) : ∀ (l : List TEnt), eraH (outT acc d l) = outEnts acc d (eraH l)
  | [] => rfl
  | e :: r => by
    have := out_era acc d r
    simp only [eraH] at this
    simp only [outT, eraH, List.map_cons, outEnts, eraE, mapT_era, this]
theorem kdOk_number (kd : Nat → Option (List CK)) (acc : List Ent) : ∀ (l : List TEnt) (j : Nat), kdOk kd (numberT acc j l) = kdOk kd l
  | [], j => rfl
  | ⟨n, v, .cells cs⟩ :: r, j => kdOk_number kd acc r (j + 1)
  | ⟨n, v, .str s p⟩ :: r, j => kdOk_number kd acc r (j + 1)
  | ⟨n, v, .row rw et ks xs⟩ :: r, j => by
    simp only [numberT, mapT, kdOk, kdOk_number kd acc r (j + 1)]

theorem reach_in {hp : HpF} (hn : ∀ b e, hp b = some e → e.name = b) : ∀ (n : Nat) (todo : List (Nat × Nat)) (acc acc' : List Ent), reach hp n todo acc = some acc' → (∀ e ∈ acc, hp e.name = some e) → ∀ e ∈ acc', hp e.name = some e
  | n, [], acc, acc', h, hi => by
    simp only [reach, Option.some.injEq] at h
    subst h; exact hi
  | 0, _ :: _, acc, acc', h, hi => by simp [reach] at h
  | n + 1, r :: todo, acc, acc', h, hi => by
    simp only [reach] at h
    split at h
    · split at h
      · exact reach_in hn n todo acc acc' h hi
      · cases h
    · split at h
      · rename_i e he
        split at h
        · refine reach_in hn n _ _ acc' h (fun e' he' => ?_)
          rcases List.mem_append.1 he' with h1 | h1
          · exact hi e' h1
          · simp only [List.mem_singleton] at h1
            subst h1
            rw [hn _ _ he]; exact he
        · cases h
      · cases h

theorem pick_era {hp : THp} : ∀ (acc : List Ent) (t : List TEnt), pickT hp acc = some t → (∀ e ∈ acc, findE (eraH hp) e.name = some e) → eraH t = acc
  | [], t, h, _ => by cases h; rfl
  | e :: r, t, h, hi => by
    simp only [pickT] at h
    split at h
    · rename_i x l hx hl
      cases h
      have h1 := hi e (by simp)
      rw [findT_some hx] at h1
      have := pick_era r l hl (fun e he => hi e (by simp [he]))
      simp only [eraH] at this
      simp only [eraH, List.map_cons, this]
      rw [Option.some.injEq] at h1
      rw [h1]
    · cases h

theorem findT_name : ∀ {l : THp} {b : Nat} {e : TEnt}, findT l b = some e → e.name = b
  | x :: l, b, e, h => by
    unfold findT at h
    split at h
    · rename_i hx; cases h; exact hx
    · exact findT_name h

theorem asks_some {X : Type} {b : Bool} {w : Why} {x : Tm X} {out : X} (h : (asks b w x).run = some out) : b = true ∧ x.run = some out := by
  unfold asks at h
  split at h
  · exact ⟨rfl, h⟩
  · simp [Tm.run] at h

theorem tvSums_ok {X : Type} {f : Nat} {args : List SVal} {ents : List TEnt} {K : SVal → List TEnt → Tm X} {out : X} : ∀ {l : List TSum}, (tvSums f args ents K l).run = some out →
    ∃ r us, trySums args ents l = some (True, r, eraH us) ∧ (K r us).run = some out
  | [], h => by simp [tvSums, Tm.run] at h
  | S :: l, h => by
    simp only [tvSums] at h
    split at h
    · rename_i v hv
      simp only [Tm.run] at h
      cases ho : S.F v with
      | none => rw [ho] at h; simp at h
      | some o =>
        rw [ho] at h
        simp only [Option.bind_some, S.ok] at h
        exact ⟨_, _, by simp only [trySums, hv, ho], h⟩
    · rename_i hv
      obtain ⟨r, us, h1, h2⟩ := tvSums_ok h
      exact ⟨r, us, by simp only [trySums, hv]; exact h1, h2⟩

theorem tvCall_ok {X : Type} {c : TCtx} {hp : THp} {d f : Nat} {args : List SVal} {w : Why} {K : SVal → List TEnt → Tm X} {out : X} (h : (tvCall c hp d f args w K).run = some out) :
    ∃ s, (unC c).sum f = some s ∧ ∃ p x us, evCall s (findE (eraH hp)) d args = some (p, x, eraH us) ∧ p ∧ (K x us).run = some out := by
  unfold tvCall at h
  split at h
  · rename_i acc hacc
    split at h
    · rename_i tacc ht
      obtain ⟨hk, h⟩ := asks_some h
      have hname : ∀ b e, findE (eraH hp) b = some e → e.name = b := fun b e he => by
        rw [find_era] at he
        cases hf : findT hp b with
        | none => rw [hf] at he; cases he
        | some x =>
          rw [hf] at he
          simp only [Option.map_some, Option.some.injEq] at he
          rw [← he]
          exact findT_name hf
      have hin := reach_in hname 40 _ [] acc hacc (by simp)
      have hera := pick_era acc tacc ht hin
      have hdec : decEnts c.kd (number acc 0 acc) = some (numberT acc 0 tacc) := by
        conv => lhs; rw [show number acc 0 acc = eraH (numberT acc 0 tacc) by rw [number_era, hera]]
        exact decEnts_era _ _ (by rw [kdOk_number]; exact hk)
      unfold tvInl at h
      split at h
      · rename_i I hI
        split at h
        · rename_i r us ha
          obtain ⟨hfr, h2⟩ := asks_some h
          refine ⟨toSum c.kd (some I) (c.sum f), by simp only [unC, sumC, hI], True, _, _, ?_, trivial, h2⟩
          unfold evCall
          simp only [hacc, toSum, hdec, ha, hfr, if_true, out_era]
        · simp [Tm.run] at h
      · rename_i hI
        obtain ⟨r, us, h1, h2⟩ := tvSums_ok h
        obtain ⟨hfr, h2⟩ := asks_some h2
        have hne : ∃ S l, c.sum f = S :: l := by
          cases hq : c.sum f with
          | nil => rw [hq] at h1; simp [trySums] at h1
          | cons S l => exact ⟨S, l, rfl⟩
        obtain ⟨S, l, hl⟩ := hne
        refine ⟨toSum c.kd none (S :: l), by simp only [unC, sumC, hI, hl], True, _, _, ?_, trivial, h2⟩
        unfold evCall
        simp only [hacc, toSum, hdec, ← hl, h1, hfr, if_true, out_era]
    · simp [Tm.run] at h
  · simp [Tm.run] at h

theorem tvX_ok {X : Type} {c : TCtx} {o : Oper} {tm : List SVal} {hp : THp} {K : SVal → List TEnt → Tm X} {out : X} (h : (tvX c o tm hp K).run = some out) :
    ∃ p x us, evOp (unC c) (evA tm) (findE (eraH hp)) o = some (p, x, eraH us) ∧ p ∧ (K x us).run = some out := by
  unfold tvX at h
  split at h
  · rename_i f args hc
    obtain ⟨s, hs, p, x, us, h1, h2, h3⟩ := tvCall_ok h
    refine ⟨p, x, us, ?_, h2, h3⟩
    unfold callOf at hc
    split at hc
    · rename_i k ho
      split at hc
      · rename_i fo hk
        split at hc
        · rename_i f' first cap hf
          simp only [Option.some.injEq, Prod.mk.injEq] at hc
          obtain ⟨rfl, rfl⟩ := hc
          simp only [evOp, ho, hk, hf, hs]
          exact h1
        · cases hc
      · cases hc
    · cases hc
  · split at h
    · rename_i q x us hq
      unfold needs at h
      simp only [Tm.run] at h
      split at h
      · rename_i hqt
        obtain ⟨p, h1, h2⟩ := tvOp_era (u := unC c) rfl rfl hq hqt
        exact ⟨p, x, us, h1, h2, h⟩
      · cases h
    · simp [Tm.run] at h
end Go.Sx
