/- Part 2 of the proof of the statement that the last part names; it asks for no condition of its own. Here: SxCall2, SxConv2, SxStep, SxOrder, SxLocal, SxDraw, SxDraw2, SxDraw3, SxCode, SxWeak, SxExit, TxPure, TxDefs, TxTm, TxOps, TxDec, TxCode, TxOp. -/
import Derived.Test.YtgkfbembnlgahaaDoorQaa
import Derived.Laws.BytesArg
import Derived.Orders
import Derived.LoopN
import GoSem.Claim
set_option linter.unusedVariables false
set_option linter.unusedSimpArgs false
set_option linter.unnecessarySimpa false
namespace Go.Sx
section
variable {Dq : Prop} {P : Program} {c : Ctx} {Fr RO : Nat → Prop} {ρ : Rho} {own : Foot} {hp : HpF} {o : Oper} {a : Act} {w : World} {ev : Operand → SVal}
def rhoIn (ρ : Rho) (acc : List Ent) : Rho := fun j u => if u = 0 then match nthE acc j with
  | some e => ρ e.name e.ver
  | none => none
  else none

def ownIn (own : Foot) (acc : List Ent) : Foot := fun j => match nthE acc j with
  | some e => own e.name
  | none => fun _ => False

def rhoOut (ρ ρ' : Rho) (acc : List Ent) (hp : HpF) (d : Nat) : Rho := fun b v => match findE acc b with
  | some e => if v ≤ e.ver then ρ b v else ρ' (indexE acc b) (v - e.ver)
  | none => if hp b = none ∧ callName d 0 ≤ b then ρ' (acc.length + (b - callName d 0)) v else ρ b v

def ownOut (own own' : Foot) (acc : List Ent) (hp : HpF) (d : Nat) : Foot := fun b => match back acc hp d b with
  | some j => own' j
  | none => own b

theorem call_sound {gl : Glob} {s : Summary} {f : FuncId} (hv : Valid P gl f s) (hgl : GL gl Fr RO w) {d : Nat} {args : List SVal} {vals : Array Value} {p : Prop} {x : SVal} {us : List Ent} (H : HRel Fr RO ρ own hp w) (hd : DL ρ args vals.toList)
    (h : evCall s hp d args = some (p, x, us)) (hp' : p) :
    Calls P f vals w fun e w' => ∃ v ρ' own' RO', e = .returned v ∧ HRel Fr RO' ρ' own' (putsF hp us) w' ∧ D ρ' x v ∧ ρ.le ρ' ∧ (∀ k, RO k → RO' k) ∧ AdvD (Str gl) (fun k => RO k ∨ Fr k) w w' := by
  unfold evCall at h
  split at h
  · rename_i acc hacc0
    split at h
    · rename_i p0 r0 us0 hs
      split at h
      · rename_i hfr
        simp only [Option.some.injEq, Prod.mk.injEq] at h
        obtain ⟨rfl, rfl, rfl⟩ := h
        have hname : ∀ b e, hp b = some e → e.name = b := fun b e he => (H.ent b e he).1
        obtain ⟨_, hargs, hcl, hnod⟩ := reach_spec hname 40 _ [] acc hacc0 (fun j e he => by simp [nthE] at he)
        have hacc : ∀ b e, findE acc b = some e → hp b = some e := fun b e he => by
          rcases hcl b e he with h | h
          · simp [findE] at h
          · exact h.1
        have hrefs : ∀ b e, findE acc b = some e → ∀ r ∈ refsO e.obj, InE acc r := fun b e he => by
          rcases hcl b e he with h | h
          · simp [findE] at h
          · exact h.2
        -- the callee's side
        have hin : ∀ r, InE acc r → ∀ y, ρ r.1 r.2 = some y → rhoIn ρ acc (inward acc r.1 r.2).1 (inward acc r.1 r.2).2 = some y := by
          rintro ⟨b, u⟩ ⟨e, he, hu⟩ y hy
          simp only at he hu hy
          simp only [inward, rhoIn, if_true, nthE_index he, findE_name he, hu]
          exact hy
        have hchp : ∀ j, findE (number acc 0 acc) j = (nthE acc j).map fun e => ⟨j, 0, mapRO (inward acc) e.obj⟩ := fun j => by rw [findE_number]; simp
        have Hc : HRel (fun k => Fr k ∨ ∃ b, own b k ∧ findE acc b = none) RO (rhoIn ρ acc) (ownIn own acc) (findE (number acc 0 acc)) w := by
          refine ⟨?_, ?_, ?_, ?_, ?_, ?_, ?_, ?_⟩
          · intro j e he
            rw [hchp] at he
            cases hq : nthE acc j with
            | none => simp [hq] at he
            | some e0 =>
              simp only [hq, Option.map_some, Option.some.injEq] at he
              subst he
              obtain ⟨_, h4⟩ := hnod _ _ hq
              obtain ⟨_, y, h5, h6⟩ := H.ent _ _ (hacc _ _ h4)
              refine ⟨rfl, y, by simp [rhoIn, hq, h5], ?_⟩
              simp only [ownIn, hq]
              exact h6.rename (fun r hr y hy => hin r (hrefs _ _ h4 r hr) y hy)
          · intro j hj k
            rw [hchp] at hj
            cases hq : nthE acc j with
            | none => simp [ownIn, hq]
            | some e0 => simp [hq] at hj
          · intro j u hne
            unfold rhoIn at hne
            split at hne
            · rename_i hu
              subst hu
              cases hq : nthE acc j with
              | none => simp [hq] at hne
              | some e0 => simp [nextOf, hchp, hq]
            · exact absurd rfl hne
          · intro j u y hy
            unfold rhoIn at hy
            split at hy
            · split at hy
              · exact H.one _ _ _ hy
              · cases hy
            · cases hy
          · intro j j' k h1 h2
            unfold ownIn at h1 h2
            cases hq : nthE acc j with
            | none => simp [hq] at h1
            | some e0 =>
              cases hq' : nthE acc j' with
              | none => simp [hq'] at h2
              | some e1 =>
                simp only [hq] at h1
                simp only [hq'] at h2
                have := H.disj _ _ _ h1 h2
                rw [← (hnod _ _ hq).1, ← (hnod _ _ hq').1, this]
          · intro j k h1
            unfold ownIn at h1
            cases hq : nthE acc j with
            | none => simp [hq] at h1
            | some e0 =>
              simp only [hq] at h1
              obtain ⟨r1, r2, r3⟩ := H.ro _ _ h1
              refine ⟨r1, ?_, r3⟩
              rintro (hf | ⟨b, hb1, hb2⟩)
              · exact r2 hf
              · have := H.disj _ _ _ h1 hb1
                subst this
                rw [(hnod _ _ hq).2] at hb2
                cases hb2
          · intro k hk
            obtain ⟨r1, r2⟩ := H.rofr k hk
            refine ⟨?_, r2⟩
            rintro (hf | ⟨b, hb1, hb2⟩)
            · exact r1 hf
            · exact (H.ro _ _ hb1).1 hk
          · rintro k (hf | ⟨b, hb1, hb2⟩)
            · exact H.fr k hf
            · exact (H.ro _ _ hb1).2.2
        have hdc : DL (rhoIn ρ acc) (mapRL (inward acc) args) vals.toList := DL.rename _ _ (fun r hr y hy => hin r (hargs r hr) y hy) hd
        have hlen : (number acc 0 acc).length = acc.length := number_length acc acc 0
        have hcall := hv _ _ _ _ _ hs hp' _ RO (rhoIn ρ acc) (ownIn own acc) w vals (fun g o h => ⟨(hgl g o h).1.imp id .inl, (hgl g o h).2⟩) Hc (fun b u hne => by
            unfold rhoIn at hne
            split at hne
            · rename_i hu
              refine ⟨hu, ?_⟩
              cases hq : nthE acc b with
              | none => simp [hq] at hne
              | some e0 => rw [hlen]; exact nthE_len hq
            · exact absurd rfl hne)
          (fun b => by
            rw [hlen, hchp]
            constructor
            · intro hh
              cases hq : nthE acc b with
              | none => simp [hq] at hh
              | some e0 => exact nthE_len hq
            · intro hh
              obtain ⟨e0, he0⟩ := nthE_lt hh
              simp [he0]) hdc
        refine hcall.mono ?_
        rintro e w' ⟨v, ρ', own', RO', rfl, H', hdr, hpar, hroM, hadv⟩
        obtain ⟨hputs, hnames⟩ := puts_out (d := d) hacc hnod us0 hp (findE (number acc 0 acc)) hfr (fun b => by
            split
            · rename_i j hj
              unfold back at hj
              split at hj
              · rename_i e0 he0
                cases hj
                rw [hchp, nthE_index he0]
                simp only [Option.map_some, outE, outward, nthE_index he0]
                rw [hacc _ _ he0]
                have hn0 := findE_name he0
                have hob : mapRO (outward acc d) (mapRO (inward acc) e0.obj) = e0.obj := by
                  cases hoo : e0.obj with
                  | cells cs =>
                    simp only [mapRO]
                    rw [mapRL_mapRL]
                    intro r hr
                    obtain ⟨e1, he1, hu1⟩ := hrefs _ _ he0 r (by rw [hoo]; exact hr)
                    simp only [inward, outward, nthE_index he1, findE_name he1, hu1, Nat.add_zero]
                  | row _ _ _ _ => rfl
                  | str _ _ => rfl
                rw [hob]
                simp
              · split at hj
                · rename_i hb
                  cases hj
                  rw [hchp]
                  have : nthE acc (acc.length + (b - callName d 0)) = none := by
                    cases hq : nthE acc (acc.length + (b - callName d 0)) with
                    | none => rfl
                    | some e => have := nthE_len hq; omega
                  rw [this]
                  simp [hb.1]
                · cases hj
            · rfl) (fun b e he => findE_name he)
        have hle : ρ.le (rhoOut ρ ρ' acc hp d) := by
          intro b v' y hy
          unfold rhoOut
          have hdom : v' < nextOf hp b := H.dom b v' (by rw [hy]; simp)
          split
          · rename_i e0 he0
            have hpe := hacc _ _ he0
            unfold nextOf at hdom
            rw [hpe] at hdom
            simp only at hdom
            rw [if_pos (by omega)]
            exact hy
          · split
            · rename_i hb
              unfold nextOf at hdom
              rw [hb.1] at hdom
              simp at hdom
            · exact hy
        have hmap : ∀ j u y, ρ' j u = some y → rhoOut ρ ρ' acc hp d (outward acc d j u).1 (outward acc d j u).2 = some y := by
          intro j u y hy
          have hdom := H'.dom j u (by rw [hy]; simp)
          unfold rhoOut
          cases hq : nthE acc j with
          | some e0 =>
            obtain ⟨h3, h4⟩ := hnod _ _ hq
            simp only [outward, hq, h4, h3]
            by_cases hu : u = 0
            · subst hu
              rw [if_pos (by omega)]
              have := (hpar j (by rw [hlen]; exact nthE_len hq)).2 y hy
              simpa [rhoIn, hq] using this
            · rw [if_neg (by omega), show e0.ver + u - e0.ver = u by omega]
              exact hy
          | none =>
            have hge : ¬ j < acc.length := fun hlt => by obtain ⟨x, hx⟩ := nthE_lt hlt; rw [hx] at hq; cases hq
            simp only [outward, hq]
            -- the entry is one of us0: its name is fresh
            have hex : ∃ e1, putsF (findE (number acc 0 acc)) us0 j = some e1 := by
              cases hh : putsF (findE (number acc 0 acc)) us0 j with
              | some e1 => exact ⟨e1, rfl⟩
              | none => unfold nextOf at hdom; rw [hh] at hdom; simp at hdom
            have hfresh : hp (callName d (j - acc.length)) = none := by
              obtain ⟨e1, he1⟩ := hex
              have key : ∀ (us : List Ent) (h2 : HpF), freshOk hp acc.length d us = true → (∀ j', ¬ j' < acc.length → h2 j' ≠ none → hp (callName d (j' - acc.length)) = none) → putsF h2 us j ≠ none → hp (callName d (j - acc.length)) = none := by
                intro us
                induction us with
                | nil => intro h2 _ h4 h5; exact h4 j hge h5
                | cons e2 us ih =>
                  intro h2 hf h4 h5
                  simp only [freshOk, Bool.and_eq_true, Bool.or_eq_true, decide_eq_true_eq, Option.isNone_iff_eq_none] at hf
                  refine ih _ hf.2 (fun j' hj' hne => ?_) h5
                  by_cases hb : e2.name = j'
                  · subst hb; exact (hf.1.resolve_left hj').2
                  · simp only [if_neg hb] at hne; exact h4 j' hj' hne
              refine key us0 _ hfr (fun j' hj' hne => ?_) (by rw [he1]; simp)
              rw [hchp] at hne
              have : nthE acc j' = none := by
                cases hq' : nthE acc j' with
                | none => rfl
                | some e => exact absurd (nthE_len hq') hj'
              rw [this] at hne
              exact absurd rfl hne
            have hfa : findE acc (callName d (j - acc.length)) = none := by
              cases hfa : findE acc (callName d (j - acc.length)) with
              | none => rfl
              | some e1 => rw [hacc _ _ hfa] at hfresh; cases hfresh
            rw [hfa]
            simp only
            rw [if_pos ⟨hfresh, by unfold callName; omega⟩]
            have : acc.length + (callName d (j - acc.length) - callName d 0) = j := by unfold callName; omega
            rw [this]
            exact hy
        refine ⟨v, rhoOut ρ ρ' acc hp d, ownOut own own' acc hp d, RO', rfl, ?_, D.rename _ _ (fun r _ y hy => hmap r.1 r.2 y hy) hdr, hle, hroM, hadv.mono (fun k hk => hk.elim .inl (fun h => .inr (.inl h)))⟩
        refine ⟨?_, ?_, ?_, ?_, ?_, ?_, ?_, ?_⟩
        · intro b e he
          rw [hputs b] at he
          split at he
          · rename_i j hj
            cases hq : putsF (findE (number acc 0 acc)) us0 j with
            | none => rw [hq] at he; cases he
            | some e1 =>
              rw [hq] at he
              simp only [Option.map_some, Option.some.injEq] at he
              subst he
              have hn1 := hnames _ _ hq
              obtain ⟨_, y, h5, h6⟩ := H'.ent _ _ hq
              refine ⟨?_, y, ?_, ?_⟩
              · simp only [outE, hn1]
                exact back_name hacc hnod hj _
              · have := hmap j e1.ver y h5
                simp only [outE, hn1]
                rw [back_name hacc hnod hj] at this
                exact this
              · simp only [ownOut, hj, outE]
                exact h6.rename (fun r _ y hy => hmap r.1 r.2 y hy)
          · rename_i hj
            obtain ⟨h4, y, h5, h6⟩ := H.ent b e he
            refine ⟨h4, y, hle _ _ _ h5, ?_⟩
            simp only [ownOut, hj]
            have hfa : findE acc b = none := by
              cases hfa : findE acc b with
              | none => rfl
              | some e1 => simp [back, hfa] at hj
            exact h6.adv hle hroM (fun k hk => hadv.block k (.inl hk)) (fun k hk => hadv.block k (.inr (.inr ⟨b, hk, hfa⟩)))
        · intro b hb k
          rw [hputs b] at hb
          unfold ownOut
          split at hb
          · rename_i j hj
            simp only [hj]
            cases hq : putsF (findE (number acc 0 acc)) us0 j with
            | none => exact H'.non j hq k
            | some e1 => rw [hq] at hb; cases hb
          · rename_i hj
            simp only [hj]
            exact H.non b hb k
        · intro b v' hne
          unfold rhoOut at hne
          unfold nextOf
          rw [hputs b]
          cases hfa : findE acc b with
          | some e0 =>
            simp only [hfa] at hne
            simp only [back, hfa]
            have hjl : indexE acc b < (number acc 0 acc).length := by rw [hlen]; exact nthE_len (nthE_index hfa)
            obtain ⟨e1, he1⟩ := (hpar (indexE acc b) hjl).1
            rw [he1]
            simp only [Option.map_some, outE, hnames _ _ he1, outward, nthE_index hfa]
            split at hne
            · omega
            · have := H'.dom _ _ hne
              unfold nextOf at this
              rw [he1] at this
              simp only at this
              omega
          | none =>
            simp only [hfa] at hne
            split at hne
            · rename_i hb
              simp only [back, hfa, if_pos hb]
              have := H'.dom _ _ hne
              unfold nextOf at this
              cases he1 : putsF (findE (number acc 0 acc)) us0 (acc.length + (b - callName d 0)) with
              | none => rw [he1] at this; simp at this
              | some e1 =>
                rw [he1] at this
                simp only [Option.map_some, outE, hnames _ _ he1]
                have hnn : nthE acc (acc.length + (b - callName d 0)) = none := by
                  cases hq : nthE acc (acc.length + (b - callName d 0)) with
                  | none => rfl
                  | some e => have := nthE_len hq; omega
                simp only [outward, hnn]
                exact this
            · rename_i hb
              simp only [back, hfa, if_neg hb]
              have := H.dom _ _ hne
              unfold nextOf at this
              exact this
        · intro b v' y hy
          unfold rhoOut at hy
          split at hy
          · split at hy
            · exact H.one _ _ _ hy
            · exact H'.one _ _ _ hy
          · split at hy
            · exact H'.one _ _ _ hy
            · exact H.one _ _ _ hy
        · intro b b' k h1 h2
          unfold ownOut at h1 h2
          have hno : ∀ b, back acc hp d b = none → findE acc b = none := fun b hb => by
            cases hfa : findE acc b with
            | none => rfl
            | some e1 => simp [back, hfa] at hb
          cases hj : back acc hp d b with
          | some j =>
            cases hj' : back acc hp d b' with
            | some j' =>
              simp only [hj] at h1
              simp only [hj'] at h2
              have := H'.disj _ _ _ h1 h2
              subst this
              rw [← back_name hacc hnod hj 0, back_name hacc hnod hj' 0]
            | none =>
              simp only [hj] at h1
              simp only [hj'] at h2
              exact absurd (.inr ⟨b', h2, hno _ hj'⟩) (H'.ro _ _ h1).2.1
          | none =>
            cases hj' : back acc hp d b' with
            | some j' =>
              simp only [hj] at h1
              simp only [hj'] at h2
              exact absurd (.inr ⟨b, h1, hno _ hj⟩) (H'.ro _ _ h2).2.1
            | none =>
              simp only [hj] at h1
              simp only [hj'] at h2
              exact H.disj _ _ _ h1 h2
        · intro b k h1
          unfold ownOut at h1
          cases hj : back acc hp d b with
          | some j =>
            simp only [hj] at h1
            obtain ⟨r1, r2, r3⟩ := H'.ro _ _ h1
            exact ⟨r1, fun hf => r2 (.inl hf), r3⟩
          | none =>
            simp only [hj] at h1
            have hfa : findE acc b = none := by
              cases hfa : findE acc b with
              | none => rfl
              | some e1 => simp [back, hfa] at hj
            obtain ⟨r1, r2, r3⟩ := H.ro _ _ h1
            exact ⟨fun hr => (H'.rofr k hr).1 (.inr ⟨b, h1, hfa⟩), r2, Nat.lt_of_lt_of_le r3 hadv.size⟩
        · intro k hk
          obtain ⟨r1, r2⟩ := H'.rofr k hk
          exact ⟨fun hf => r1 (.inl hf), r2⟩
        · intro k hk
          exact Nat.lt_of_lt_of_le (H.fr k hk) hadv.size
      · cases h
    · cases h
  · cases h

theorem step_call {gl : Glob} {s : Summary} {f : FuncId} (hv : Valid P gl f s) (hgl : GL gl Fr RO w) (hbody : HasBody P f) {d : Nat} {k : Call} {fo : Operand} {first cap : List SVal} {p : Prop} {x : SVal} {us : List Ent} (H : HRel Fr RO ρ own hp w) (hev : ∀ x, D ρ (ev x) (a.eval x))
    (ho : o.op = .call k) (hk : k.callee = .value fo) (hf : ev fo = .fn f first cap) (h : evCall s hp d (first ++ k.args.toList.map ev ++ cap) = some (p, x, us)) (hp' : p) : Step (Str gl) P Fr RO ρ hp o a w x us := by
  intro next Q hnext
  have hd := hev fo
  rw [hf] at hd
  obtain ⟨fa, ca, h1, h2, h3⟩ := hd
  obtain ⟨fn, hfn, hnm, hb⟩ := hbody
  have hl : ∀ l : List Operand, DL ρ (l.map ev) (l.map a.eval) := by
    intro l
    induction l with
    | nil => exact trivial
    | cons x r ih => exact ⟨hev x, ih⟩
  have hargs : DL ρ (first ++ k.args.toList.map ev ++ cap) (fa ++ k.args.map a.eval ++ ca).toList := by
    rw [Array.toList_append, Array.toList_append, Array.toList_map]
    exact (h2.append (hl _)).append h3
  have hrun : (execOp a.eval o).run P w = .ok (.enter f (fa ++ k.args.map a.eval ++ ca)) w := by
    simp only [execOp, ho]
    rw [Sem.run_bind]
    simp only [resolve, hk, h1, Deferred.ofValue, Sem.run_pure, Result.andThen_ok, invoke, callFunc]
    rw [Sem.run_bind, run_program, Result.andThen_ok]
    simp only [hfn, hnm, hb, Bool.false_eq_true, if_false, Sem.run_pure]
  unfold Oper.wp
  rw [hrun, Oper.upon_enter]
  refine (call_sound hv hgl H hargs h hp').mono ?_
  rintro e w' ⟨v, ρ', own', RO', rfl, H', hd', hle, hro, hadv⟩
  exact hnext v w' ρ' own' RO' H' hd' hle hro hadv
end
end Go.Sx

namespace Go.Sx
section
variable {Dq : Prop} {P : Program} {c : Ctx} {Fr RO : Nat → Prop} {ρ : Rho} {own : Foot} {hp : HpF} {o : Oper} {a : Act} {w : World} {ev : Operand → SVal}
theorem rowInts_vals {k : IntKind} : ∀ {xs : List (List Cell)} {ns : List Int} {vals : List Value}, rowInts k xs = some ns → CellsAre RO w xs.flatten vals → vals = ns.map (.int k) ∧ ns.length = xs.length
  | [], ns, vals, h, hc => by
    simp only [rowInts, Option.some.injEq] at h
    subst h
    cases vals with
    | nil => exact ⟨rfl, rfl⟩
    | cons => exact hc.elim
  | [.v (.int k' n)] :: r, ns, vals, h, hc => by
    simp only [rowInts] at h
    split at h
    · rename_i hk
      subst hk
      split at h
      · rename_i l hl
        simp only [Option.some.injEq] at h
        subst h
        cases vals with
        | nil => exact hc.elim
        | cons y ys =>
          obtain ⟨h1, h2⟩ := hc
          obtain ⟨e1, e2⟩ := rowInts_vals hl h2
          refine ⟨?_, by simp [e2]⟩
          rw [e1, h1.1]
          rfl
      · cases h
    · cases h
  | [] :: r, ns, vals, h, hc => by simp [rowInts] at h
  | [.s _ _ _] :: r, ns, vals, h, hc => by simp [rowInts] at h
  | (_ :: _ :: _) :: r, ns, vals, h, hc => by simp [rowInts] at h
  | [.v v] :: r, ns, vals, h, hc => by
    cases v with
    | int k' n =>
      simp only [rowInts] at h
      split at h
      · rename_i hk
        subst hk
        split at h
        · rename_i l hl
          simp only [Option.some.injEq] at h
          subst h
          cases vals with
          | nil => exact hc.elim
          | cons y ys =>
            obtain ⟨h1, h2⟩ := hc
            obtain ⟨e1, e2⟩ := rowInts_vals hl h2
            refine ⟨?_, by simp [e2]⟩
            rw [e1, h1.1]
            rfl
        · cases h
      · cases h
    | _ => simp [rowInts] at h

theorem step_text {s t e : TypeId} {i j k : TI} {x : Operand} {b u et sz : Nat} {rw' : Bool} {xs : List (List Cell)} {ns : List Int} (H : HRel Fr RO ρ own hp w) (hev : ∀ x, D ρ (ev x) (a.eval x)) (F : TyFacts P s i) (hi : i.td = .slice e) (F' : TyFacts P t j) (hj : j.td = .str) (Fe : TyFacts P e k) (hk : k.td = .int .u8)
    (ho : o.op = .convert s t x) (hx : ev x = .own b u) (hob : objOf hp b u = some (.row rw' et sz xs)) (hn : rowInts .u8 xs = some ns) :
    Step Dq P Fr RO ρ hp o a w (.v (.string (textOf ns))) [] := by
  have hX := hev x
  rw [hx] at hX
  simp only [D] at hX
  have hs := F.td
  rw [hi] at hs
  have ht := F'.td
  rw [hj] at ht
  have he := Fe.td
  rw [hk] at he
  have hus := td_slice hs
  have hut := td_str ht
  have hue := td_int he
  obtain ⟨v, hv, hh⟩ := H.obj hob
  rw [hX] at hv
  cases hv
  obtain ⟨vals, hcs, hl, hlen, ⟨ad, cp, hval⟩, hcell, hpos⟩ := row_cells hh
  obtain ⟨rfl, hnl⟩ := rowInts_vals hn hcs
  have hrun : (convert s t (a.eval x)).run P w = .ok (.string (textOf ns)) w := by
    rw [hval]
    cases ad with
    | none =>
      have hx0 : xs.length = 0 := by
        rcases Nat.eq_zero_or_pos xs.length with h | h
        · exact h
        · obtain ⟨ad', c', h'⟩ := hpos h
          rw [hval] at h'
          cases h'
      have : ns = [] := List.eq_nil_of_length_eq_zero (by omega)
      subst this
      rw [run_convert_bytes_nil w s e hus hue _ _ t hut]
      rfl
    | some ad =>
      rw [run_convert_bytes_string w s t e _ _ _ hus hue hut, run_bytesToString w ad xs.length cp ns ?_, foldl_push_bytes]
      · have : (ByteArray.empty.data : Array UInt8) = #[] := rfl
        rw [this, textOf]
        simp
      · have := run_loadCells_list (P := P) w ad (ns.map (Value.int .u8)) (fun j y hj => hcell ad _ cp hval j y hj)
        simpa [hnl] using this
  refine step_pure H (v := .string (textOf ns)) ?_ rfl
  simp only [execOp, ho]
  rw [Sem.run_bind, hrun]
  rfl

theorem HRel.readAlone (H : HRel Fr RO ρ own hp w) {k0 : Nat} (h1 : ∀ b, ¬ own b k0) (h2 : k0 < w.heap.size) (h3 : ¬ Fr k0) : HRel Fr (fun k => RO k ∨ k = k0) ρ own hp w := by
  refine ⟨?_, H.non, H.dom, H.one, H.disj, ?_, ?_, H.fr⟩
  · intro b e he
    obtain ⟨e1, x, e2, e3⟩ := H.ent b e he
    exact ⟨e1, x, e2, e3.adv (Rho.le_refl _) (fun k hk => .inl hk) (fun _ _ => rfl) (fun _ _ => rfl)⟩
  · intro b k hk
    obtain ⟨r1, r2, r3⟩ := H.ro b k hk
    refine ⟨fun hc => ?_, r2, r3⟩
    rcases hc with hc | hc
    · exact r1 hc
    · subst hc
      exact h1 b hk
  · intro k hk
    rcases hk with hk | hk
    · exact H.rofr k hk
    · subst hk
      exact ⟨h3, h2⟩

theorem intsOf_vals {k : IntKind} : ∀ {cs : List SVal} {ns : List Int} {vals : List Value}, intsOf k cs = some ns → DL ρ cs vals → vals = ns.map (.int k)
  | [], ns, vals, h, hc => by
    simp only [intsOf, Option.some.injEq] at h
    subst h
    cases vals with
    | nil => rfl
    | cons => exact hc.elim
  | x :: r, ns, vals, h, hc => by
    cases x with
    | v y =>
      cases y with
      | int k' n =>
        simp only [intsOf] at h
        split at h
        · rename_i hk
          subst hk
          split at h
          · rename_i l hl
            simp only [Option.some.injEq] at h
            subst h
            cases vals with
            | nil => exact hc.elim
            | cons y ys =>
              obtain ⟨h1, h2⟩ := hc
              rw [intsOf_vals hl h2]
              simp only [D] at h1
              rw [h1]
              rfl
          · cases h
        · cases h
      | _ => simp [intsOf] at h
    | _ => simp [intsOf] at h

theorem ints_cells (k : IntKind) : ∀ l : List Int, (l.map fun n => [Cell.v (.int k n)]).flatten = l.map fun n => Cell.v (.int k n)
  | [] => rfl
  | _ :: r => by simp [ints_cells k r]

theorem step_arrCut {t e : TypeId} {i j : TI} {x : Operand} {lo hi : Option Operand} {b u m d : Nat} {k : IntKind} {cs : List SVal} {ns : List Int} {A B : Int} (H : HRel Fr RO ρ own hp w) (hev : ∀ x, D ρ (ev x) (a.eval x)) (F : TyFacts P t i) (hi' : i.td = .arr m e) (Fe : TyFacts P e j)
    (hsz : j.size = 1) (ho : o.op = .slice t x lo hi none) (hx : ev x = .ptr b u 0) (hob : objOf hp b u = some (.cells cs)) (hd : hp d = none) (hns : intsOf k cs = some ns) (hnl : ns.length = m) (hm : m ≤ 16777216)
    (hlo : (lo = none ∧ A = 0) ∨ ∃ l k, lo = some l ∧ ev l = .v (.int k A)) (hhi : (hi = none ∧ B = m) ∨ ∃ l k, hi = some l ∧ ev l = .v (.int k B)) (h0 : 0 ≤ A) (h1 : A ≤ B) (h2 : B ≤ m) :
    Step Dq P Fr RO ρ hp o a w (.own d 0) [⟨b, u + 1, .row false e 1 []⟩, ⟨d, 0, .row false e 1 (((ns.take B.toNat).drop A.toNat).map fun n => [.v (.int k n)])⟩] := by
  have hX := hev x
  rw [hx] at hX
  obtain ⟨ad, hρ, hXv⟩ := hX
  have he := objOf_ent H hob
  obtain ⟨v, hv, hh⟩ := H.obj hob
  rw [hρ] at hv
  cases hv
  obtain ⟨g, arr, ty, hpt, hheap, hDL, hown⟩ := hh
  cases hpt
  have harr := intsOf_vals hns hDL
  have hbd : ¬ b = d := by intro h; subst h; rw [he] at hd; cases hd
  obtain ⟨r1, r2, r3⟩ := H.ro b g ((hown g).2 rfl)
  have hempty : holds (ρ.set b (u + 1) (.slice none 0 0)) (.slice none 0 0) (fun _ => False) RO w (.row false e 1 []) :=
    ⟨[], ⟨none, 0, rfl, rfl, ⟨Nat.zero_le _, Nat.zero_le _⟩, fun h => absurd h (Nat.lt_irrefl _)⟩, trivial, fun _ h => h, fun l hl => by cases hl⟩
  obtain ⟨H1, hle1⟩ := H.upd b (u + 1) (.row false e 1 []) (.slice none 0 0) (fun _ => False) (.inr (by simp [nextOf, he])) (fun e' he' => by rw [he] at he'; cases he'; exact Nat.le_succ _) (Adv.refl _ w) hempty (fun k hk => hk.elim)
  have H2 := H1.readAlone (k0 := g) (fun b' hb' => by
    by_cases hb : b' = b
    · simp [hb] at hb'
    · simp only [if_neg hb] at hb'
      exact hb (H.disj _ _ _ hb' ((hown g).2 rfl))) r3 r2
  have hval : ∀ jj y, (((ns.take B.toNat).drop A.toNat).map (Value.int k))[jj]? = some y → w.cell? ((⟨g, 0, none⟩ : Addr).add (A.toNat + jj)) = some y := by
    intro jj y hj
    rw [add_lit, Nat.zero_add]
    have : arr[A.toNat + jj]? = some y := by
      rw [← Array.getElem?_toList, harr, List.getElem?_map]
      rw [List.getElem?_map, List.getElem?_drop, List.getElem?_take] at hj
      split at hj
      · exact hj
      · simp at hj
    simp only [World.cell?, hheap]
    exact this
  have hcutlen : ((ns.take B.toNat).drop A.toNat).length = B.toNat - A.toNat := by simp; omega
  have hcut : holds ((ρ.set b (u + 1) (.slice none 0 0)).set d 0 (.slice (some (if m = A.toNat then (⟨g, 0, none⟩ : Addr) else (⟨g, 0, none⟩ : Addr).add (A.toNat * 1))) (B.toNat - A.toNat) (m - A.toNat))) (.slice (some (if m = A.toNat then (⟨g, 0, none⟩ : Addr) else (⟨g, 0, none⟩ : Addr).add (A.toNat * 1))) (B.toNat - A.toNat) (m - A.toNat)) (fun _ => False) (fun k => RO k ∨ k = g) w (.row false e 1 (((ns.take B.toNat).drop A.toNat).map fun n => [.v (.int k n)])) := by
    refine ⟨((ns.take B.toNat).drop A.toNat).map (.int k), ⟨_, m - A.toNat, by rw [List.length_map, hcutlen], by rw [List.length_map, List.length_map, Nat.mul_one], ⟨by rw [List.length_map, hcutlen]; omega, by rw [List.length_map, hcutlen]; omega⟩, fun hpos => ?_⟩, ?_, fun _ h => h, fun l hl => ?_⟩
    · rw [List.length_map, hcutlen] at hpos
      rw [if_neg (by omega), Nat.mul_one]
      refine ⟨_, rfl, fun _ => .inr ?_, fun jj y hj => ?_⟩
      · rw [Addr_add_block]
      · rw [add_add]
        exact hval jj y hj
    · rw [ints_cells]
      generalize (ns.take B.toNat).drop A.toNat = l
      induction l with
      | nil => exact trivial
      | cons x r ih => exact ⟨⟨rfl, rfl⟩, ih⟩
    · obtain ⟨n, _, rfl⟩ := List.mem_map.1 hl
      rfl
  obtain ⟨H3, hle3⟩ := H2.share (b := d) (by simp [hbd, hd]) (.row false e 1 (((ns.take B.toNat).drop A.toNat).map fun n => [.v (.int k n)])) _ hcut
  have hs := F.td
  rw [hi'] at hs
  have hu := td_arr hs
  refine step_value (v := .slice (some (if m = A.toNat then (⟨g, 0, none⟩ : Addr) else (⟨g, 0, none⟩ : Addr).add (A.toNat * 1))) (B.toNat - A.toNat) (m - A.toNat)) (w' := w) ?_ H3 (by simp [D, Rho.set]) (Rho.le_trans hle1 hle3) (fun k hk => .inl hk) (Adv.refl _ w)
  have hbd : (Instr.sliceBounds false m m (lo.map a.eval) (hi.map a.eval) none).run P w = .ok (A.toNat, B.toNat, m) w := by
    have sb : ∀ (l : Operand) (k : IntKind) (n : Int) (y : Nat) (code : BoundsCode), ev l = .v (.int k n) → 0 ≤ n → n ≤ y → (Instr.sliceBound (a.eval l) y code).run P w = .ok n.toNat w := by
      intro l k n y code hl hn hy
      have := hev l
      rw [hl] at this
      simp only [D] at this
      rw [this]
      exact run_sliceBound w k n y code hn hy
    rcases hhi with ⟨rfl, rfl⟩ | ⟨l, k, rfl, hl⟩ <;> rcases hlo with ⟨rfl, rfl⟩ | ⟨l', k', rfl, hl'⟩
    · simp [Instr.sliceBounds]
    · simp [Instr.sliceBounds, sb l' k' A m .sliceB hl' h0 (by omega)]
    · simp [Instr.sliceBounds, sb l k B m .sliceAlen hl (by omega) h2]
    · simp [Instr.sliceBounds, sb l k B m .sliceAlen hl (by omega) h2, sb l' k' A B.toNat .sliceB hl' h0 (by omega)]
  have h00 : (⟨g, 0, none⟩ : Addr).add 0 = ⟨g, 0, none⟩ := by rw [add_lit]
  have : (Instr.sliceAt t (.pointer (some ⟨g, 0, none⟩)) (lo.map a.eval) (hi.map a.eval) none).run P w = .ok (.slice (some (if m = A.toNat then (⟨g, 0, none⟩ : Addr) else (⟨g, 0, none⟩ : Addr).add (A.toNat * 1))) (B.toNat - A.toNat) (m - A.toNat)) w := by
    unfold Instr.sliceAt
    rw [Sem.run_bind, run_underlying hu w, Result.andThen_ok]
    have hsa : (Instr.sureAddr (.pointer (some ⟨g, 0, none⟩))).run P w = .ok ⟨g, 0, none⟩ w := rfl
    dsimp only
    rw [Sem.run_bind, hsa, Result.andThen_ok]
    rw [Sem.run_bind, hbd, Result.andThen_ok]
    simp only
    rw [Sem.run_bind, run_sizeOf Fe, Result.andThen_ok, hsz]
    rfl
  simp only [execOp, ho, hXv, h00]
  rw [Sem.run_bind, Option.map_none, this]
  rfl
end
end Go.Sx

namespace Go.Sx
section
variable {Dq : Prop} {P : Program} {c : Ctx} {Fr RO : Nat → Prop} {ρ : Rho} {own : Foot} {hp : HpF} {o : Oper} {a : Act} {w : World} {ev : Operand → SVal}
theorem evBuiltin_sound (hc : CtxOK P c) (H : HRel Fr RO ρ own hp w) (hev : ∀ x, D ρ (ev x) (a.eval x)) {b : Builtin} {args : Array Operand} {at_ : Array TypeId} {p : Prop} {x : SVal} {us : List Ent}
    (ho : o.op = .call { callee := .builtin b, args := args, argTypes := at_ }) (h : evBuiltin c hp (o.dst.getD 0) b at_.toList (args.toList.map ev) = some (p, x, us)) (hp' : p) : Step Dq P Fr RO ρ hp o a w x us := by
  generalize hl : args.toList.map ev = l at h
  generalize ht : at_.toList = tys at h
  have hhead : ∀ t r, at_.toList = t :: r → at_[0]? = some t := fun t r h => by
    rw [← Array.getElem?_toList, h]; rfl
  unfold evBuiltin at h
  split at h
  · rename_i b0 u0 t0
    split at h
    · rename_i z1 z2 e z3 rw' et sz xs hty hob
      simp only [ret, Option.some.injEq, Prod.mk.injEq] at h
      obtain ⟨_, rfl, rfl⟩ := h
      obtain ⟨F⟩ := tyFacts (hc.ty _ _ hty)
      refine step_lenV H hev F (hhead _ _ ht) ho hl (fun y hy => .inr ?_)
      obtain ⟨v, hv, hh⟩ := H.obj hob
      simp only [D] at hy
      rw [hy] at hv
      cases hv
      obtain ⟨_, _, _, _, ⟨ad, cp, hval⟩, _⟩ := row_cells hh
      exact ⟨e, ad, _, cp, rfl, hval, rfl⟩
    · cases h
  · rename_i ad n cp t0
    split at h
    · rename_i z1 z2 e z3 hty
      simp only [ret, Option.some.injEq, Prod.mk.injEq] at h
      obtain ⟨_, rfl, rfl⟩ := h
      obtain ⟨F⟩ := tyFacts (hc.ty _ _ hty)
      exact step_lenV H hev F (hhead _ _ ht) ho hl (fun y hy => .inr ⟨e, ad, n, cp, rfl, hy, rfl⟩)
    · cases h
  · rename_i s t0
    split at h
    · rename_i z1 z2 z3 hty
      simp only [ret, Option.some.injEq, Prod.mk.injEq] at h
      obtain ⟨_, rfl, rfl⟩ := h
      obtain ⟨F⟩ := tyFacts (hc.ty _ _ hty)
      exact step_lenV H hev F (hhead _ _ ht) ho hl (fun y hy => .inl ⟨rfl, s, hy, rfl⟩)
    · cases h
  · rename_i b1 u1 b2 u2 t0 t1
    split at h
    · rename_i z1 z2 e z3 et sz xs rw' et' sz' ys hty hob1 hob2
      split at h
      · rename_i te hte
        split at h
        · rename_i hcond
          obtain ⟨rfl, rfl, rfl, h4, h5, h6, rfl⟩ := hcond
          simp only [Option.some.injEq, Prod.mk.injEq] at h
          obtain ⟨rfl, rfl, rfl⟩ := h
          obtain ⟨F⟩ := tyFacts (hc.ty _ _ hty)
          obtain ⟨F'⟩ := tyFacts (hc.ty _ _ hte)
          exact step_append H hev F rfl F' h6 h4 h5 ht ho hl hob1 hob2 hp'
        · cases h
      · cases h
    · cases h
  · rename_i b2 u2 t0 t1
    split at h
    · rename_i z1 z2 e z3 rw' et' sz' ys hty hob2 hnone
      split at h
      · rename_i te hte
        split at h
        · rename_i hcond
          obtain ⟨rfl, h4, h5, h6, rfl⟩ := hcond
          simp only [Option.some.injEq, Prod.mk.injEq] at h
          obtain ⟨rfl, rfl, rfl⟩ := h
          obtain ⟨F⟩ := tyFacts (hc.ty _ _ hty)
          obtain ⟨F'⟩ := tyFacts (hc.ty _ _ hte)
          exact step_appendNil H hev F rfl F' h6 h4 h5 ht ho hl hnone hob2 hp'
        · cases h
      · cases h
    · cases h
  · rename_i b1 u1 b2 u2 t0 t1
    split at h
    · rename_i z1 z2 e z3 et sz xs rw' et' sz' ys hty hob1 hob2
      split at h
      · rename_i te hte
        split at h
        · rename_i hcond
          obtain ⟨rfl, rfl, h4⟩ := hcond
          simp only [Option.some.injEq, Prod.mk.injEq] at h
          obtain ⟨_, rfl, rfl⟩ := h
          obtain ⟨F⟩ := tyFacts (hc.ty _ _ hty)
          obtain ⟨F'⟩ := tyFacts (hc.ty _ _ hte)
          exact step_copy H hev F rfl F' h4 ⟨t1, by cases at_; simp only at ht; rw [ht]⟩ ho hl hob1 hob2
        · cases h
      · cases h
    · cases h
  · simp only [ret, Option.some.injEq, Prod.mk.injEq] at h
    obtain ⟨_, rfl, rfl⟩ := h
    have := step_minmax (Dq := Dq) (P := P) (bi := .max) (.inl rfl) H hev ho hl
    simpa using this
  · simp only [ret, Option.some.injEq, Prod.mk.injEq] at h
    obtain ⟨_, rfl, rfl⟩ := h
    have := step_minmax (Dq := Dq) (P := P) (bi := .min) (.inr rfl) H hev ho hl
    simpa using this
  · cases h

theorem evOp_sound (hc : CtxOK P c) (hgl : GL c.gl Fr RO w) (H : HRel Fr RO ρ own hp w) (hev : ∀ x, D ρ (ev x) (a.eval x)) {p : Prop} {x : SVal} {us : List Ent} (h : evOp c ev hp o = some (p, x, us)) (hp' : p) : Step (Str c.gl) P Fr RO ρ hp o a w x us := by
  unfold evOp at h
  simp only at h
  split at h
  · rename_i y ho
    simp only [ret, Option.some.injEq, Prod.mk.injEq] at h
    obtain ⟨_, rfl, rfl⟩ := h
    exact step_move H hev (.inl ho)
  · rename_i y ho
    simp only [ret, Option.some.injEq, Prod.mk.injEq] at h
    obtain ⟨_, rfl, rfl⟩ := h
    exact step_move H hev (.inr ho)
  · rename_i cc y z ho
    split at h
    · rename_i ht
      simp only [ret, Option.some.injEq, Prod.mk.injEq] at h
      obtain ⟨_, rfl, rfl⟩ := h
      exact step_pick H hev ho ht
    · rename_i ht
      simp only [ret, Option.some.injEq, Prod.mk.injEq] at h
      obtain ⟨_, rfl, rfl⟩ := h
      exact step_pick H hev ho ht
    · cases h
  · rename_i t ho
    split at h
    · rename_i i hty hnone
      simp only [Option.some.injEq, Prod.mk.injEq] at h
      obtain ⟨_, rfl, rfl⟩ := h
      obtain ⟨F⟩ := tyFacts (hc.ty _ _ hty)
      exact step_alloc H F hnone ho
    · cases h
  · rename_i t y ho
    split at h
    · rename_i hnone
      split at h
      · rename_i hs
        simp only [Option.some.injEq, Prod.mk.injEq] at h
        obtain ⟨_, rfl, rfl⟩ := h
        exact step_box H hev hnone ho hs
      · cases h
    · cases h
  · rename_i t parts ho
    split at h
    · rename_i i hty
      split at h
      · rename_i hcond
        simp only [Bool.and_eq_true] at hcond
        split at h
        · rename_i cs hcs
          simp only [ret, Option.some.injEq, Prod.mk.injEq] at h
          obtain ⟨_, rfl, rfl⟩ := h
          obtain ⟨F⟩ := tyFacts (hc.ty _ _ hty)
          exact step_build hc.ty H hev F hcond.1 hcond.2 ho hcs
        · cases h
      · cases h
    · cases h
  · rename_i t y ho
    split at h
    · rename_i i hty
      obtain ⟨F⟩ := tyFacts (hc.ty _ _ hty)
      exact step_load (fun g o h => (hgl g o h).2) H hev F ho h hp'
    · cases h
  · rename_i t y z ho
    split at h
    · rename_i i hty
      obtain ⟨F⟩ := tyFacts (hc.ty _ _ hty)
      exact step_store H hev F ho h hp'
    · cases h
  · rename_i y ho
    split at h
    · rename_i b u off hy
      simp only [ret, Option.some.injEq, Prod.mk.injEq] at h
      obtain ⟨_, rfl, rfl⟩ := h
      rw [← hy]
      exact step_nilCheck H hev ho (.inl ⟨b, u, off, hy⟩)
    · rename_i f l m hy
      simp only [ret, Option.some.injEq, Prod.mk.injEq] at h
      obtain ⟨_, rfl, rfl⟩ := h
      rw [← hy]
      exact step_nilCheck H hev ho (.inr ⟨f, l, m, hy⟩)
    · cases h
  · rename_i op t y z ty ho
    split at h
    · rename_i l cs ds hcm hx hy
      exact step_eqAgg H hev (hc.cmp _ _ hcm) ho hx hy h hp'
    · split at h
      · rename_i z1 z2 z3 hty
        obtain ⟨F⟩ := tyFacts (hc.ty _ _ hty)
        exact step_eqIface H hev F rfl ho h hp'
      · rename_i z1 z2 e z3 hty
        obtain ⟨F⟩ := tyFacts (hc.ty _ _ hty)
        exact step_nilCmp H hev F rfl ho h hp'
      · rename_i i _ _ hty
        obtain ⟨F⟩ := tyFacts (hc.ty _ _ hty)
        exact step_binOp H hev F ho h hp'
      · cases h
  · rename_i t y ho
    split at h
    · cases h
    · rename_i i hne hty
      simp only [ret, Option.some.injEq, Prod.mk.injEq] at h
      obtain ⟨_, rfl, rfl⟩ := h
      obtain ⟨F⟩ := tyFacts (hc.ty _ _ hty)
      exact step_makeIface H F (fun hd => by
        obtain ⟨q1, q2, q3, q4⟩ := i
        simp only at hd
        subst hd
        exact hne _ _ _ rfl) ho
    · cases h
  · rename_i op t y ho
    split at h
    · rename_i b hy
      simp only [ret, Option.some.injEq, Prod.mk.injEq] at h
      obtain ⟨_, rfl, rfl⟩ := h
      exact step_not H hev ho hy
    · rename_i k n hy
      simp only [ret, Option.some.injEq, Prod.mk.injEq] at h
      obtain ⟨_, rfl, rfl⟩ := h
      exact step_neg H hev ho hy
    · rename_i k n hy
      simp only [ret, Option.some.injEq, Prod.mk.injEq] at h
      obtain ⟨_, rfl, rfl⟩ := h
      exact step_xor H hev ho hy
    · cases h
  · rename_i s t y ho
    split at h
    · rename_i i z1 z2 k z3 k' n hs ht hy
      simp only [ret, Option.some.injEq, Prod.mk.injEq] at h
      obtain ⟨_, rfl, rfl⟩ := h
      obtain ⟨F⟩ := tyFacts (hc.ty _ _ hs)
      obtain ⟨F'⟩ := tyFacts (hc.ty _ _ ht)
      exact step_convInt H hev F F' rfl ho hy
    · rename_i z1 z2 z3 z4 z5 z6 z hs ht hy
      simp only [ret, Option.some.injEq, Prod.mk.injEq] at h
      obtain ⟨_, rfl, rfl⟩ := h
      obtain ⟨F⟩ := tyFacts (hc.ty _ _ hs)
      obtain ⟨F'⟩ := tyFacts (hc.ty _ _ ht)
      exact step_convStr H hev F F' rfl rfl ho hy
    · rename_i z1 z2 z3 z4 z5 e z6 z hs ht hy
      split at h
      · rename_i y1 y2 y3 he hdn
        simp only [Option.some.injEq, Prod.mk.injEq] at h
        obtain ⟨rfl, rfl, rfl⟩ := h
        obtain ⟨F⟩ := tyFacts (hc.ty _ _ hs)
        obtain ⟨F'⟩ := tyFacts (hc.ty _ _ ht)
        obtain ⟨Fe⟩ := tyFacts (hc.ty _ _ he)
        exact step_bytes H hev F rfl F' rfl Fe rfl ho hy hdn hp'
      · cases h
    · rename_i z1 z2 e z3 z4 z5 z6 b u hs ht hy
      split at h
      · rename_i y1 y2 y3 rw' et sz xs he hob
        split at h
        · rename_i ns hns
          simp only [ret, Option.some.injEq, Prod.mk.injEq] at h
          obtain ⟨_, rfl, rfl⟩ := h
          obtain ⟨F⟩ := tyFacts (hc.ty _ _ hs)
          obtain ⟨F'⟩ := tyFacts (hc.ty _ _ ht)
          obtain ⟨Fe⟩ := tyFacts (hc.ty _ _ he)
          exact step_text H hev F rfl F' rfl Fe rfl ho hy hob hns
        · cases h
      · cases h
    · cases h
  · rename_i f first captured ho
    simp only [ret, Option.some.injEq, Prod.mk.injEq] at h
    obtain ⟨_, rfl, rfl⟩ := h
    exact step_makeFunc H hev ho
  · rename_i t y f ho
    split at h
    · rename_i i hty
      obtain ⟨F⟩ := tyFacts (hc.ty _ _ hty)
      have hpart : ∀ o' n fs, partAt c i f = some (o', n) → i.td = .struct fs → ∃ u j, fieldAt fs f = some (o', u) ∧ c.ty u = some j ∧ n = j.size := by
        intro o' n fs hq hfs
        unfold partAt at hq
        rw [hfs] at hq
        simp only at hq
        split at hq
        · rename_i o2 u2 hfa
          split at hq
          · rename_i j hj
            simp only [Option.some.injEq, Prod.mk.injEq] at hq
            obtain ⟨rfl, rfl⟩ := hq
            exact ⟨u2, j, hfa, hj, rfl⟩
          · cases hq
        · cases hq
      split at h
      · rename_i o' n fs b u off hq hfs hy
        split at h
        · rename_i hn
          simp only [ret, Option.some.injEq, Prod.mk.injEq] at h
          obtain ⟨_, rfl, rfl⟩ := h
          obtain ⟨u2, j, h1, h2, rfl⟩ := hpart _ _ _ hq hfs
          obtain ⟨F'⟩ := tyFacts (hc.ty _ _ h2)
          exact step_fieldAddr H hev F hfs h1 F' hn ho (.inl ⟨b, u, off, hy, rfl⟩)
        · cases h
      · rename_i o' n fs b u sz k off hq hfs hy
        split at h
        · rename_i hn
          simp only [ret, Option.some.injEq, Prod.mk.injEq] at h
          obtain ⟨_, rfl, rfl⟩ := h
          obtain ⟨u2, j, h1, h2, rfl⟩ := hpart _ _ _ hq hfs
          obtain ⟨F'⟩ := tyFacts (hc.ty _ _ h2)
          exact step_fieldAddr H hev F hfs h1 F' hn ho (.inr ⟨b, u, sz, k, off, hy, rfl⟩)
        · cases h
      · cases h
    · cases h
  · rename_i t y f ho
    split at h
    · rename_i i cs hty hy
      split at h
      · rename_i fs hfs
        split at h
        · rename_i o' u hfa
          split at h
          · rename_i j hj
            split at h
            · rename_i r hr
              simp only [Option.some.injEq, Prod.mk.injEq] at h
              obtain ⟨rfl, rfl, rfl⟩ := h
              obtain ⟨F⟩ := tyFacts (hc.ty _ _ hty)
              obtain ⟨F'⟩ := tyFacts (hc.ty _ _ hj)
              exact step_field H hev F hfs hfa F' ho hy hr hp'
            · cases h
          · cases h
        · cases h
      · cases h
    · cases h
  · rename_i t y z ho
    split at h
    · rename_i z1 z2 e z3 b u k n hty hy hz
      split at h
      · rename_i rw' et sz xs te hob hte
        split at h
        · rename_i hsz
          simp only [Option.some.injEq, Prod.mk.injEq] at h
          obtain ⟨rfl, rfl, rfl⟩ := h
          obtain ⟨F⟩ := tyFacts (hc.ty _ _ hty)
          obtain ⟨F'⟩ := tyFacts (hc.ty _ _ hte)
          exact step_indexSlice H hev F rfl F' hsz ho hy hz hob hp'.1 hp'.2
        · cases h
      · cases h
    · rename_i z1 z2 m e z3 b u off k n hty hy hz
      split at h
      · rename_i j hj
        simp only [Option.some.injEq, Prod.mk.injEq] at h
        obtain ⟨rfl, rfl, rfl⟩ := h
        obtain ⟨F⟩ := tyFacts (hc.ty _ _ hty)
        obtain ⟨F'⟩ := tyFacts (hc.ty _ _ hj)
        exact step_indexArrAddr H hev F rfl F' ho hy hz hp'.1 hp'.2
      · cases h
    · cases h
  · rename_i t y z ho
    split at h
    · rename_i z1 z2 z3 s k n hty hy hz
      simp only [Option.some.injEq, Prod.mk.injEq] at h
      obtain ⟨rfl, rfl, rfl⟩ := h
      obtain ⟨F⟩ := tyFacts (hc.ty _ _ hty)
      exact step_indexStr H hev F rfl ho hy hz hp'.1 hp'.2
    · rename_i z1 z2 m e z3 cs k n hty hy hz
      split at h
      · rename_i j hj
        split at h
        · rename_i r hr
          simp only [Option.some.injEq, Prod.mk.injEq] at h
          obtain ⟨rfl, rfl, rfl⟩ := h
          obtain ⟨F⟩ := tyFacts (hc.ty _ _ hty)
          obtain ⟨F'⟩ := tyFacts (hc.ty _ _ hj)
          exact step_indexArr H hev F rfl F' ho hy hz hr hp'.1 hp'.2.1 hp'.2.2
        · cases h
      · cases h
    · cases h
  · rename_i t y lo hi ho
    split at h
    · rename_i z1 z2 z3 s hty hy
      obtain ⟨F⟩ := tyFacts (hc.ty _ _ hty)
      have hsome : ∀ (l : Option Operand) k n, l.map ev = some (.v (.int k n)) → ∃ y k, l = some y ∧ ev y = .v (.int k n) := by
        intro l k n hl
        cases l with
        | none => simp at hl
        | some y => exact ⟨y, k, rfl, by simpa using hl⟩
      have hnone : ∀ (l : Option Operand), l.map ev = none → l = none := by
        intro l hl
        cases l with
        | none => rfl
        | some y => simp at hl
      split at h
      · rename_i hl hh
        simp only [ret, Option.some.injEq, Prod.mk.injEq] at h
        obtain ⟨_, rfl, rfl⟩ := h
        have := step_sliceStr (Dq := Str c.gl) (A := 0) (B := s.size) H hev F rfl ho hy (.inl ⟨hnone _ hl, rfl⟩) (.inl ⟨hnone _ hh, rfl⟩) (by omega) (by omega) (by omega)
        simpa using this
      · rename_i k n hl hh
        simp only [Option.some.injEq, Prod.mk.injEq] at h
        obtain ⟨rfl, rfl, rfl⟩ := h
        obtain ⟨y1, k1, h1, h2⟩ := hsome _ _ _ hl
        have := step_sliceStr (Dq := Str c.gl) (A := n) (B := s.size) H hev F rfl ho hy (.inr ⟨y1, k1, h1, h2⟩) (.inl ⟨hnone _ hh, rfl⟩) hp'.1 hp'.2 (by omega)
        simpa using this
      · rename_i k n hl hh
        simp only [Option.some.injEq, Prod.mk.injEq] at h
        obtain ⟨rfl, rfl, rfl⟩ := h
        obtain ⟨y1, k1, h1, h2⟩ := hsome _ _ _ hh
        have := step_sliceStr (Dq := Str c.gl) (A := 0) (B := n) H hev F rfl ho hy (.inl ⟨hnone _ hl, rfl⟩) (.inr ⟨y1, k1, h1, h2⟩) (by omega) hp'.1 hp'.2
        simpa using this
      · rename_i k n k' m hl hh
        simp only [Option.some.injEq, Prod.mk.injEq] at h
        obtain ⟨rfl, rfl, rfl⟩ := h
        obtain ⟨y1, k1, h1, h2⟩ := hsome _ _ _ hl
        obtain ⟨y2, k2, h3, h4⟩ := hsome _ _ _ hh
        exact step_sliceStr (A := n) (B := m) H hev F rfl ho hy (.inr ⟨y1, k1, h1, h2⟩) (.inr ⟨y2, k2, h3, h4⟩) hp'.1 hp'.2.1 hp'.2.2
      · cases h
    · rename_i z1 z2 e z3 b u hty hy
      obtain ⟨F⟩ := tyFacts (hc.ty _ _ hty)
      split at h
      · rename_i te rw' et sz xs hte hob hdn
        obtain ⟨Fe⟩ := tyFacts (hc.ty _ _ hte)
        split at h
        · rename_i A B hA hB
          split at h
          · rename_i hsz
            simp only [Option.some.injEq, Prod.mk.injEq] at h
            obtain ⟨rfl, rfl, rfl⟩ := h
            have bnd : ∀ (l : Option Operand) (dflt n : Int), boundS dflt (l.map ev) = some n → (l = none ∧ n = dflt) ∨ ∃ y k, l = some y ∧ ev y = .v (.int k n) := by
              intro l dflt n hl
              cases l with
              | none => simp only [Option.map_none, boundS, Option.some.injEq] at hl; exact .inl ⟨rfl, hl.symm⟩
              | some y =>
                simp only [Option.map_some] at hl
                unfold boundS at hl
                split at hl
                · rename_i q; cases q
                · rename_i k n' q
                  simp only [Option.some.injEq] at hl q
                  subst hl
                  exact .inr ⟨y, k, rfl, q⟩
                · cases hl
            exact step_cut (A := A) (B := B) H hev F rfl Fe hsz ho hy hob hdn (bnd _ _ _ hA) (bnd _ _ _ hB) hp'.1 hp'.2.1 hp'.2.2
          · cases h
        · cases h
      · cases h
    · rename_i z1 z2 m e z3 b u hty hy
      obtain ⟨F⟩ := tyFacts (hc.ty _ _ hty)
      split at h
      · rename_i sz z4 k z5 cs hte hob hdn
        obtain ⟨Fe⟩ := tyFacts (hc.ty _ _ hte)
        split at h
        · rename_i A B ns hA hB hns
          split at h
          · rename_i hcond
            simp only [Option.some.injEq, Prod.mk.injEq] at h
            obtain ⟨rfl, rfl, rfl⟩ := h
            have bnd : ∀ (l : Option Operand) (dflt n : Int), boundS dflt (l.map ev) = some n → (l = none ∧ n = dflt) ∨ ∃ y k, l = some y ∧ ev y = .v (.int k n) := by
              intro l dflt n hl
              cases l with
              | none => simp only [Option.map_none, boundS, Option.some.injEq] at hl; exact .inl ⟨rfl, hl.symm⟩
              | some y =>
                simp only [Option.map_some] at hl
                unfold boundS at hl
                split at hl
                · rename_i q; cases q
                · rename_i k n' q
                  simp only [Option.some.injEq] at hl q
                  subst hl
                  exact .inr ⟨y, k, rfl, q⟩
                · cases hl
            exact step_arrCut (A := A) (B := B) H hev F rfl Fe hcond.1 ho hy hob hdn hns hcond.2.1 hcond.2.2 (bnd _ _ _ hA) (bnd _ _ _ hB) hp'.1 hp'.2.1 hp'.2.2
          · cases h
        · cases h
      · cases h
    · cases h
  · rename_i t i ho
    split at h
    · rename_i vs hvs
      split at h
      · rename_i hlt
        simp only [ret, Option.some.injEq, Prod.mk.injEq] at h
        obtain ⟨_, rfl, rfl⟩ := h
        exact step_extract H hev ho hvs hlt
      · cases h
    · cases h
  · rename_i t l k ho
    split at h
    · rename_i z1 z2 e z3 k1 n k2 m hty hl hk
      split at h
      · rename_i te hte hnone
        split at h
        · rename_i hcond
          simp only [Option.some.injEq, Prod.mk.injEq] at h
          obtain ⟨rfl, rfl, rfl⟩ := h
          obtain ⟨F⟩ := tyFacts (hc.ty _ _ hty)
          obtain ⟨F'⟩ := tyFacts (hc.ty _ _ hte)
          exact step_makeSlice H hev F rfl F' hnone ho hl hk hp'.1 hp'.2.1 hcond.1 hcond.2.1 hcond.2.2 hp'.2.2
        · cases h
      · cases h
    · cases h
  · rename_i t len parts ho
    split at h
    · rename_i z1 z2 e z3 hty hnone
      split at h
      · rename_i te hte
        split at h
        · rename_i hcond
          split at h
          · rename_i xs us' hbr
            simp only [Option.some.injEq, Prod.mk.injEq] at h
            obtain ⟨_, rfl, rfl⟩ := h
            obtain ⟨F⟩ := tyFacts (hc.ty _ _ hty)
            obtain ⟨F'⟩ := tyFacts (hc.ty _ _ hte)
            exact step_buildSlice H hev F rfl F' hcond.1 hcond.2.1 hcond.2.2 hnone ho hbr
          · cases h
        · cases h
      · cases h
    · cases h
  · rename_i k ho
    split at h
    · rename_i fo hk
      split at h
      · rename_i f first cap hf
        split at h
        · rename_i s hs
          obtain ⟨hv, hb⟩ := hc.sum _ _ hs
          exact step_call hv hgl hb H hev ho hk hf h hp'
        · cases h
      · cases h
    · rename_i b hk
      refine evBuiltin_sound hc H hev (b := b) (args := k.args) (at_ := k.argTypes) ?_ h hp'
      rw [ho]
      cases k
      simp only at hk
      subst hk
      rfl
    · cases h
  · rename_i t y ho
    split at h
    · rename_i z1 z2 z3 s hty hy hnone
      simp only [Option.some.injEq, Prod.mk.injEq] at h
      obtain ⟨_, rfl, rfl⟩ := h
      obtain ⟨F⟩ := tyFacts (hc.ty _ _ hty)
      exact step_range H hev F rfl hnone ho hy
    · cases h
  · cases h

theorem evNext_sound (H : HRel Fr RO ρ own hp w) (hev : ∀ x, D ρ (ev x) (a.eval x)) {f : Bool → Res} (h : evNext ev hp o = some f) {more : Bool} {p : Prop} {x : SVal} {us : List Ent} (hm : f more = some (p, x, us)) (hp' : p) :
    Step Dq P Fr RO ρ hp o a w x us := by
  unfold evNext at h
  split at h
  · rename_i y ho
    split at h
    · rename_i b u hy
      split at h
      · rename_i s pos hob
        simp only [Option.some.injEq] at h
        subst h
        cases more with
        | true =>
          simp only [if_true, Option.some.injEq, Prod.mk.injEq] at hm
          obtain ⟨rfl, rfl, rfl⟩ := hm
          exact step_next H hev ho hy hob hp'
        | false =>
          simp only [Bool.false_eq_true, if_false, Option.some.injEq, Prod.mk.injEq] at hm
          obtain ⟨rfl, rfl, rfl⟩ := hm
          exact step_nextEnd H hev ho hy hob hp'
      · cases h
    · cases h
  · cases h
end
end Go.Sx

namespace Go.Sx
section
variable {L V : Type} [DecidableEq L]
def applyW (S : L → V) : List (L × V) → L → V
  | [] => S
  | (l, v) :: r => applyW (fun x => if x = l then v else S x) r

def domW (ws : List (L × V)) (l : L) : Prop := ∃ v, (l, v) ∈ ws

theorem applyW_not {ws : List (L × V)} {l : L} (h : ¬ domW ws l) : ∀ S : L → V, applyW S ws l = S l := by
  induction ws with
  | nil => intro S; rfl
  | cons x r ih =>
    intro S
    obtain ⟨k, v⟩ := x
    simp only [applyW]
    rw [ih (fun ⟨v', hv'⟩ => h ⟨v', by simp [hv']⟩)]
    rw [if_neg (fun e => h ⟨v, by simp [e]⟩)]

theorem applyW_in {ws : List (L × V)} {l : L} : ∀ (S S' : L → V), (domW ws l ∨ S l = S' l) → applyW S ws l = applyW S' ws l := by
  induction ws with
  | nil =>
    intro S S' h
    rcases h with ⟨v, hv⟩ | h
    · simp at hv
    · exact h
  | cons x r ih =>
    intro S S' h
    obtain ⟨k, v⟩ := x
    simp only [applyW]
    refine ih _ _ ?_
    by_cases hk : l = k
    · right; simp [hk]
    · rcases h with ⟨v', hv'⟩ | h
      · left
        simp only [List.mem_cons, Prod.mk.injEq, hk, false_and, false_or] at hv'
        exact ⟨v', hv'⟩
      · right; simp [hk, h]

def foldD (D : Nat → Bool) : Nat → List (List (L × V)) → (L → V) → L → V
  | _, [], S => S
  | k, ws :: r, S => foldD D (k + 1) r (if D k then applyW S ws else S)

theorem foldD_agree {l : L} (D D' : Nat → Bool) : ∀ (k : Nat) (r : List (List (L × V))) (S S' : L → V), (∀ j ws, r[j]? = some ws → domW ws l → D (k + j) = D' (k + j)) → S l = S' l → foldD D k r S l = foldD D' k r S' l
  | _, [], S, S', _, h => h
  | k, ws :: r, S, S', hd, h => by
    simp only [foldD]
    refine foldD_agree D D' (k + 1) r _ _ (fun j w hj hw => by
      have := hd (j + 1) w (by simpa using hj) hw
      rwa [← Nat.add_assoc, Nat.add_right_comm] at this) ?_
    by_cases hw : domW ws l
    · have := hd 0 ws rfl hw
      rw [Nat.add_zero] at this
      rw [this]
      split
      · exact applyW_in _ _ (.inl hw)
      · exact h
    · have h1 : (if D k then applyW S ws else S) l = S l := by split <;> simp [applyW_not hw]
      have h2 : (if D' k then applyW S' ws else S') l = S' l := by split <;> simp [applyW_not hw]
      rw [h1, h2, h]

theorem foldD_last {l : L} (D : Nat → Bool) : ∀ (k i : Nat) (r : List (List (L × V))) (ws : List (L × V)) (S T : L → V), r[i]? = some ws → domW ws l → D (k + i) = true → (∀ j ws', r[j]? = some ws' → i < j → domW ws' l → D (k + j) = false) →
    foldD D k r S l = applyW T ws l
  | k, 0, w0 :: r, ws, S, T, hi, hw, hD, hlast => by
    simp at hi
    subst hi
    simp only [foldD]
    rw [Nat.add_zero] at hD
    rw [if_pos hD]
    have : foldD D (k + 1) r (applyW S w0) l = foldD (fun _ => false) (k + 1) r (applyW S w0) l := foldD_agree D _ (k + 1) r _ _ (fun j w hj hw' => by
      have := hlast (j + 1) w (by simpa using hj) (by omega) hw'
      rwa [← Nat.add_assoc, Nat.add_right_comm] at this) rfl
    rw [this]
    have none : ∀ (k : Nat) (r : List (List (L × V))) (S : L → V), foldD (fun _ => false) k r S = S := by
      intro k r
      induction r generalizing k with
      | nil => intro S; rfl
      | cons x r ih => intro S; simp only [foldD]; rw [ih]; simp
    rw [none]
    exact applyW_in _ _ (.inl hw)
  | k, i + 1, w0 :: r, ws, S, T, hi, hw, hD, hlast => by
    simp only [foldD]
    refine foldD_last D (k + 1) i r ws _ T (by simpa using hi) hw (by rwa [← Nat.add_assoc, Nat.add_right_comm] at hD) (fun j w' hj hij hw' => ?_)
    have := hlast (j + 1) w' (by simpa using hj) (by omega) hw'
    rwa [← Nat.add_assoc, Nat.add_right_comm] at this
  | _, _, [], _, _, _, hi, _, _, _ => by simp at hi

theorem foldD_add {l : L} (D : Nat → Bool) (i : Nat) (r : List (List (L × V))) (ws : List (L × V)) (S : L → V) (hi : r[i]? = some ws) (hD : D i = false)
    (hlast : ∀ j ws', r[j]? = some ws' → i < j → domW ws l → domW ws' l → D j = false) :
    foldD (fun k => if k = i then true else D k) 0 r S l = applyW (foldD D 0 r S) ws l := by
  by_cases hw : domW ws l
  · exact foldD_last _ 0 i r ws S _ hi hw (by simp) (fun j ws' hj hij hw' => by
      rw [Nat.zero_add]
      show (if j = i then true else D j) = false
      rw [if_neg (by omega)]
      exact hlast j ws' hj hij hw hw')
  · rw [applyW_not hw]
    refine foldD_agree _ _ 0 r _ _ (fun j ws' hj hw' => ?_) rfl
    rw [Nat.zero_add]
    show (if j = i then true else D j) = D j
    by_cases hji : j = i
    · subst hji
      rw [hi] at hj
      cases hj
      exact absurd hw' hw
    · rw [if_neg hji]

theorem foldD_all (D : Nat → Bool) : ∀ (k : Nat) (r : List (List (L × V))) (S : L → V), (∀ j, j < r.length → D (k + j) = true) → foldD D k r S = r.foldl applyW S
  | _, [], S, _ => rfl
  | k, ws :: r, S, h => by
    simp only [foldD, List.foldl_cons]
    have h0 := h 0 (by simp)
    rw [Nat.add_zero] at h0
    rw [if_pos h0]
    exact foldD_all D (k + 1) r _ (fun j hj => by
      have := h (j + 1) (by simpa using hj)
      rwa [← Nat.add_assoc, Nat.add_right_comm] at this)

theorem foldD_prefix : ∀ (k i : Nat) (r : List (List (L × V))) (S : L → V), foldD (fun q => decide (q < k + i)) k r S = (r.take i).foldl applyW S
  | k, i, [], S => by simp [foldD]
  | k, 0, ws :: r, S => by
    simp only [foldD, Nat.add_zero, List.take_zero, List.foldl_nil]
    have : ∀ (r : List (List (L × V))) (m : Nat) (S : L → V), k ≤ m → foldD (fun q => decide (q < k)) m r S = S := by
      intro r
      induction r with
      | nil => intro m S _; rfl
      | cons x r ih => intro m S hm; simp only [foldD]; rw [ih (m + 1) _ (by omega)]; simp [show ¬ m < k by omega]
    rw [this r (k + 1) _ (by omega)]
    simp
  | k, i + 1, ws :: r, S => by
    simp only [foldD, List.take_succ_cons, List.foldl_cons]
    rw [if_pos (by simp)]
    have := foldD_prefix (k + 1) i r (applyW S ws)
    rw [show k + (i + 1) = k + 1 + i by omega]
    exact this
end
end Go.Sx

namespace Go.Sx
def ownN (d b : Nat) : Bool := b == slotName d || (decide (callName d 0 ≤ b) && decide (b < callName d 10))

def names1 (l : List (Nat × Nat)) : List Nat := l.map (·.1)

def callTouch (ev : Operand → SVal) (hp : HpF) (o : Oper) : List Nat := match o.op with
  | .call k => match k.callee with
    | .value f => match ev f with
      | .fn _ first cap => match reach hp 40 (refsL (first ++ k.args.toList.map ev ++ cap)) [] with
        | some acc => acc.map (·.name)
        | none => []
      | _ => []
    | _ => []
  | _ => []

def touchA (ev : Operand → SVal) (hp : HpF) (o : Oper) : List Nat := names1 (refsL (o.op.operands.toList.map ev)) ++ callTouch ev hp o

section
variable {c : Ctx} {ev ev' : Operand → SVal} {hp hp' : HpF} {o : Oper}
theorem objOf_congr {b u : Nat} (h : hp' b = hp b) : objOf hp' b u = objOf hp b u := by unfold objOf; rw [h]

theorem open_names' (d : Nat) : ∀ (cs : List Cell) (k : Nat) (e : Ent), e ∈ (openCells d k cs).2 → ∃ j, k ≤ j ∧ j < k + (openCells d k cs).2.length ∧ e.name = callName d j
  | [], k, e, h => by simp [openCells] at h
  | .v x :: r, k, e, h => by
    simp only [openCells] at h ⊢
    exact open_names' d r k e h
  | .s et sz xs :: r, k, e, h => by
    simp only [openCells, List.mem_cons] at h ⊢
    rcases h with rfl | h
    · exact ⟨k, Nat.le_refl _, by simp, rfl⟩
    · obtain ⟨j, h1, h2, h3⟩ := open_names' d r (k + 1) e h
      exact ⟨j, by omega, by simp only [List.length_cons]; omega, h3⟩

theorem absent_congr : ∀ (es : List Ent), (∀ e ∈ es, hp' e.name = hp e.name) → absentAll hp' es = absentAll hp es
  | [], _ => rfl
  | e :: r, h => by
    simp only [absentAll]
    rw [h e (by simp), absent_congr r (fun e he => h e (by simp [he]))]

theorem own_call {d j : Nat} (h : j < 10) : ownN d (callName d j) = true := by
  unfold ownN callName slotName
  simp
  right
  omega
theorem own_slot (d : Nat) : ownN d (slotName d) = true := by simp [ownN]

theorem loadS_local {gl : Glob} {t : TI} {d : Nat} {x : SVal} (h1 : ∀ b ∈ names1 (refs x), hp' b = hp b) (h2 : ∀ b, ownN d b = true → hp' b = hp b) : loadS gl t hp' d x = loadS gl t hp d x := by
  cases x with
  | v y =>
    unfold loadS
    split <;> first | rfl | (rename_i h; cases h)
  | ptr b u off =>
    unfold loadS
    simp only
    rw [objOf_congr (h1 b (by simp [refs, names1]))]
  | elt b u sz i off =>
    unfold loadS
    simp only
    rw [objOf_congr (h1 b (by simp [refs, names1]))]
    cases hob : objOf hp b u with
    | none => rfl
    | some ob =>
      cases ob with
      | row rw' et sz' xs =>
        simp only
        by_cases hten : (openCells d 0 (((xs.getD i []).drop off).take t.size)).2.length ≤ 10
        · rw [absent_congr _ (fun e he => h2 _ (by
            obtain ⟨j, h3, h4, h5⟩ := open_names' d _ 0 e he
            rw [h5]
            exact own_call (by omega)))]
        · have hf : decide ((openCells d 0 (((xs.getD i []).drop off).take t.size)).2.length ≤ 10) = false := decide_eq_false hten
          simp only [hf, Bool.and_false, Bool.false_and]
      | _ => rfl
  | _ => rfl

theorem shut_local : ∀ (l : List SVal), (∀ b ∈ names1 (refsL l), hp' b = hp b) → shutCells hp' l = shutCells hp l
  | [], _ => rfl
  | .v x :: r, h => by
    simp only [shutCells]
    rw [shut_local r (fun b hb => h b (by simpa [refsL, refs, names1] using hb))]
  | .own b u :: r, h => by
    simp only [shutCells]
    rw [objOf_congr (h b (by simp [refsL, refs, names1])), shut_local r (fun b hb => h b (by
      simp only [names1, refsL, refs, List.map_append, List.mem_append] at hb ⊢
      exact .inr hb))]
  | .ptr _ _ _ :: r, _ => rfl
  | .elt _ _ _ _ _ :: r, _ => rfl
  | .agg _ :: r, _ => rfl
  | .tup _ :: r, _ => rfl
  | .fn _ _ _ :: r, _ => rfl
  | .ifc :: r, _ => rfl
  | .undef :: r, _ => rfl

theorem refs_cells (x : SVal) : refsL (cellsOf x) = refs x := by
  cases x <;> simp [cellsOf, refsL, refs]

theorem storeS_local {t : TI} {x y : SVal} (h1 : ∀ b ∈ names1 (refs x), hp' b = hp b) : storeS t hp' x y = storeS t hp x y := by
  unfold storeS
  split
  · cases x with
    | ptr b u off => simp only; rw [objOf_congr (h1 b (by simp [refs, names1]))]
    | elt b u sz i off => simp only; rw [objOf_congr (h1 b (by simp [refs, names1]))]
    | _ => rfl
  · rfl

theorem buildRow_local {te : TI} : ∀ (n i : Nat) (ps : List (Nat × SVal)), (∀ b ∈ names1 (refsL (ps.map (·.2))), hp' b = hp b) → evOp.buildRow hp' te n i ps = evOp.buildRow hp te n i ps
  | 0, i, [], _ => rfl
  | n + 1, i, (j, x) :: r, h => by
    simp only [evOp.buildRow]
    rw [shut_local (cellsOf x) (fun b hb => h b (by
      rw [refs_cells] at hb
      simp only [names1, List.map_cons, refsL, List.map_append, List.mem_append] at hb ⊢
      exact .inl hb)), buildRow_local n (i + 1) r (fun b hb => h b (by
      simp only [names1, List.map_cons, refsL, List.map_append, List.mem_append] at hb ⊢
      exact .inr hb))]
  | 0, i, _ :: _, _ => rfl
  | _ + 1, i, [], _ => rfl

theorem reach_mono : ∀ (n : Nat) (todo : List (Nat × Nat)) (acc acc' : List Ent), reach hp n todo acc = some acc' → ∀ e ∈ acc, e ∈ acc'
  | _, [], acc, acc', h => by simp [reach] at h; subst h; exact fun _ h => h
  | 0, _ :: _, acc, acc', h => by simp [reach] at h
  | n + 1, r :: todo, acc, acc', h => by
    unfold reach at h
    split at h
    · split at h
      · exact reach_mono n _ _ _ h
      · cases h
    · split at h
      · split at h
        · intro e he
          exact reach_mono n _ _ _ h e (by simp [he])
        · cases h
      · cases h

theorem reach_local : ∀ (n : Nat) (todo : List (Nat × Nat)) (acc acc' : List Ent), (∀ b e, hp b = some e → e.name = b) → reach hp n todo acc = some acc' → (∀ e ∈ acc', hp' e.name = hp e.name) → reach hp' n todo acc = some acc'
  | _, [], acc, acc', _, h, _ => by simpa [reach] using h
  | 0, _ :: _, acc, acc', _, h, _ => by simp [reach] at h
  | n + 1, r :: todo, acc, acc', hn, h, hl => by
    unfold reach at h ⊢
    split at h
    · rename_i e he
      split at h
      · rename_i hv
        rw [if_pos hv]
        exact reach_local n _ _ _ hn h hl
      · cases h
    · rename_i he
      split at h
      · rename_i e hpe
        split at h
        · rename_i hv
          have hm : e ∈ acc' := reach_mono n _ _ _ h e (by simp)
          have hen := hn _ _ hpe
          have : hp' r.1 = some e := by have := hl e hm; rw [hen] at this; rw [this, hpe]
          simp only [this]
          rw [if_pos hv]
          exact reach_local n _ _ _ hn h hl
        · cases h
      · cases h

theorem fresh_local {m d : Nat} : ∀ (us : List Ent), freshOk hp m d us = true → (∀ b, ownN d b = true → hp' b = hp b) → freshOk hp' m d us = true
  | [], _, _ => rfl
  | e :: r, h, ho => by
    simp only [freshOk, Bool.and_eq_true, Bool.or_eq_true, decide_eq_true_eq, Option.isNone_iff_eq_none] at h ⊢
    refine ⟨?_, fresh_local r h.2 ho⟩
    rcases h.1 with h1 | ⟨h1, h2⟩
    · exact .inl h1
    · by_cases hlt : e.name < m
      · exact .inl hlt
      · exact .inr ⟨h1, by rw [ho _ (own_call (by omega))]; exact h2⟩

theorem evCall_local {s : Summary} {d : Nat} {args : List SVal} {r : Prop × SVal × List Ent} (hn : ∀ b e, hp b = some e → e.name = b) (h : evCall s hp d args = some r)
    (h1 : ∀ acc, reach hp 40 (refsL args) [] = some acc → ∀ e ∈ acc, hp' e.name = hp e.name) (h2 : ∀ b, ownN d b = true → hp' b = hp b) : evCall s hp' d args = some r := by
  unfold evCall at h ⊢
  split at h
  · rename_i acc hacc
    rw [reach_local 40 _ _ _ hn hacc (h1 acc hacc)]
    simp only
    split at h
    · rename_i p r0 us hs
      split at h
      · rename_i hf
        rw [if_pos (fresh_local us hf h2)]
        exact h
      · cases h
    · cases h
  · cases h

theorem evBuiltin_local {d : Nat} {b : Builtin} {tys : List TypeId} {args : List SVal} (h1 : ∀ b ∈ names1 (refsL args), hp' b = hp b) (h2 : ∀ b, ownN d b = true → hp' b = hp b) :
    evBuiltin c hp' d b tys args = evBuiltin c hp d b tys args := by
  unfold evBuiltin
  split
  · rename_i b0 u0 t
    rw [objOf_congr (h1 b0 (by simp [refsL, refs, names1]))]
  · rfl
  · rfl
  · rename_i b0 u0 b1 u1 t t'
    rw [objOf_congr (h1 b0 (by simp [refsL, refs, names1])), objOf_congr (h1 b1 (by simp [refsL, refs, names1]))]
  · rename_i b1 u1 t t'
    rw [objOf_congr (h1 b1 (by simp [refsL, refs, names1])), h2 _ (own_slot d)]
  · rename_i b0 u0 b1 u1 t t'
    rw [objOf_congr (h1 b0 (by simp [refsL, refs, names1])), objOf_congr (h1 b1 (by simp [refsL, refs, names1]))]
  · rfl
  · rfl
  · rfl

theorem nilCmp_local {op : BinOp} {x y : SVal} (h : ∀ b ∈ names1 (refs x), hp' b = hp b) : nilCmp hp' op x y = nilCmp hp op x y := by
  cases x with
  | own b u =>
    show nilE (hp' b) u op y = nilE (hp b) u op y
    rw [h b (by simp [refs, names1])]
  | _ => rfl
theorem evOp_localA {r : Prop × SVal × List Ent} (hn : ∀ b e, hp b = some e → e.name = b) (h : evOp c ev hp o = some r) (hev : ∀ x ∈ o.op.operands.toList, ev' x = ev x)
    (hhp : ∀ b, b ∈ touchA ev hp o → hp' b = hp b) (hown : ∀ b, ownN (o.dst.getD 0) b = true → hp' b = hp b) : evOp c ev' hp' o = some r := by
  have hrefs : ∀ x ∈ o.op.operands.toList, ∀ b ∈ names1 (refs (ev x)), hp' b = hp b := by
    intro x hx b hb
    refine hhp b ?_
    unfold touchA
    rw [List.mem_append]
    left
    have : ∀ (l : List Operand), x ∈ l → b ∈ names1 (refsL (l.map ev)) := by
      intro l
      induction l with
      | nil => simp
      | cons y r ih =>
        intro hy
        simp only [List.map_cons, refsL, names1, List.map_append, List.mem_append]
        rcases List.mem_cons.1 hy with rfl | hy
        · exact .inl hb
        · exact .inr (ih hy)
    exact this _ hx
  have hmap : ∀ (l : List Operand), (∀ x ∈ l, x ∈ o.op.operands.toList) → l.map ev' = l.map ev := by
    intro l hl
    exact List.map_congr_left (fun x hx => hev x (hl x hx))
  unfold evOp at h ⊢
  simp only at h ⊢
  have hsl := hown _ (own_slot (o.dst.getD 0))
  cases hop : o.op with
  | move x => rw [hop] at h hev; simp only at h ⊢; rw [hev x (by simp [Op.operands])]; exact h
  | assign x => rw [hop] at h hev; simp only at h ⊢; rw [hev x (by simp [Op.operands])]; exact h
  | pick cc x y => rw [hop] at h hev; simp only at h ⊢; rw [hev x (by simp [Op.operands]), hev y (by simp [Op.operands]), hev cc (by simp [Op.operands])]; exact h
  | alloc t => rw [hop] at h; simp only at h ⊢; rw [hsl]; exact h
  | box t x => rw [hop] at h hev; simp only at h ⊢; rw [hsl, hev x (by simp [Op.operands])]; exact h
  | build t parts =>
    rw [hop] at h hev
    simp only at h ⊢
    have : (parts.toList.map fun p => (p.1, ev' p.2)) = parts.toList.map fun p => (p.1, ev p.2) := List.map_congr_left (fun p hp => by rw [hev p.2 (by simp only [Op.operands, List.mem_map]; exact ⟨p, hp, rfl⟩)])
    rw [this]; exact h
  | load t x =>
    rw [hop] at h hev hrefs
    simp only at h ⊢
    rw [hev x (by simp [Op.operands])]
    cases hty : c.ty t with
    | none => rw [hty] at h; cases h
    | some i =>
      rw [hty] at h
      simp only at h ⊢
      rw [loadS_local (hrefs x (by simp [Op.operands])) hown]; exact h
  | store t x y =>
    rw [hop] at h hev hrefs
    simp only at h ⊢
    rw [hev x (by simp [Op.operands]), hev y (by simp [Op.operands])]
    cases hty : c.ty t with
    | none => rw [hty] at h; cases h
    | some i =>
      rw [hty] at h
      simp only at h ⊢
      rw [storeS_local (hrefs x (by simp [Op.operands]))]; exact h
  | nilCheck x => rw [hop] at h hev; simp only at h ⊢; rw [hev x (by simp [Op.operands])]; exact h
  | binOp op t x y ty =>
    rw [hop] at h hev hrefs
    simp only at h ⊢
    rw [hev x (by simp [Op.operands]), hev y (by simp [Op.operands]), nilCmp_local (hp := hp) (hp' := hp') (op := op) (x := ev x) (y := ev y) (hrefs x (by simp [Op.operands]))]
    exact h
  | makeInterface t x => rw [hop] at h; exact h
  | unOp op t x => rw [hop] at h hev; simp only at h ⊢; rw [hev x (by simp [Op.operands])]; exact h
  | convert s t x =>
    rw [hop] at h hev
    simp only at h ⊢
    rw [hev x (by simp [Op.operands]), hsl]
    have hob : ∀ b u, ev x = .own b u → objOf hp' b u = objOf hp b u := fun b u hx => objOf_congr (hrefs x (by rw [hop]; simp [Op.operands]) b (by rw [hx]; simp [refs, names1]))
    split at h
    · exact h
    · exact h
    · exact h
    · rename_i hs ht hx
      simp only [hob _ _ hx]
      exact h
    · cases h
  | makeFunc f first captured =>
    rw [hop] at h hev
    cases f with
    | func f =>
      simp only at h ⊢
      have e1 : first.toList.map ev' = first.toList.map ev := List.map_congr_left (fun x hx => hev x (by simp only [Op.operands, Array.toList_append, List.mem_append]; exact .inl hx))
      have e2 : captured.toList.map ev' = captured.toList.map ev := List.map_congr_left (fun x hx => hev x (by simp only [Op.operands, Array.toList_append, List.mem_append]; exact .inr hx))
      rw [e1, e2]; exact h
    | _ => cases h
  | fieldAddr t x f => rw [hop] at h hev; simp only at h ⊢; rw [hev x (by simp [Op.operands])]; exact h
  | field t x f => rw [hop] at h hev; simp only at h ⊢; rw [hev x (by simp [Op.operands])]; exact h
  | indexAddr t x y =>
    rw [hop] at h hev hrefs
    simp only at h ⊢
    rw [hev x (by simp [Op.operands]), hev y (by simp [Op.operands])]
    have hr := hrefs x (by simp [Op.operands])
    split at h
    · rename_i z1 z2 e z3 b u k n hty hx hy
      rw [objOf_congr (hr b (by rw [hx]; simp [refs, names1]))]
      exact h
    · rename_i z1 z2 m e z3 b u off k n hty hx hy
      exact h
    · cases h
  | index t x y => rw [hop] at h hev; simp only at h ⊢; rw [hev x (by simp [Op.operands]), hev y (by simp [Op.operands])]; exact h
  | slice t x lo hi mx =>
    rw [hop] at h hev
    cases mx with
    | some m => cases h
    | none =>
      simp only at h ⊢
      have e1 : lo.map ev' = lo.map ev := by
        cases lo with
        | none => rfl
        | some l => simp only [Option.map_some]; rw [hev l (by simp [Op.operands])]
      have e2 : hi.map ev' = hi.map ev := by
        cases hi with
        | none => rfl
        | some l => simp only [Option.map_some]; rw [hev l (by simp [Op.operands])]
      rw [hev x (by simp [Op.operands]), e1, e2, hsl]
      have hob : ∀ b u, ev x = .own b u → objOf hp' b u = objOf hp b u := fun b u hx => objOf_congr (hrefs x (by rw [hop]; simp [Op.operands]) b (by rw [hx]; simp [refs, names1]))
      have hop' : ∀ b u q, ev x = .ptr b u q → objOf hp' b u = objOf hp b u := fun b u q hx => objOf_congr (hrefs x (by rw [hop]; simp [Op.operands]) b (by rw [hx]; simp [refs, names1]))
      split at h
      · exact h
      · rename_i hty hx
        simp only [hob _ _ hx]
        exact h
      · rename_i hty hx
        simp only [hop' _ _ _ hx]
        exact h
      · cases h
  | extract t i => rw [hop] at h hev; simp only at h ⊢; rw [hev t (by simp [Op.operands])]; exact h
  | makeSlice t l k => rw [hop] at h hev; simp only at h ⊢; rw [hsl, hev l (by simp [Op.operands]), hev k (by simp [Op.operands])]; exact h
  | buildSlice t len parts =>
    rw [hop] at h hev hrefs
    simp only at h ⊢
    have e1 : (parts.toList.map fun p => (p.1, ev' p.2)) = parts.toList.map fun p => (p.1, ev p.2) := List.map_congr_left (fun p hp => by rw [hev p.2 (by simp only [Op.operands, List.mem_map]; exact ⟨p, hp, rfl⟩)])
    have e2 : ∀ te n i, evOp.buildRow hp' te n i (parts.toList.map fun p => (p.1, ev p.2)) = evOp.buildRow hp te n i (parts.toList.map fun p => (p.1, ev p.2)) := fun te n i => buildRow_local n i _ (fun b hb => by
      refine hhp b ?_
      unfold touchA
      rw [hop, List.mem_append]
      left
      have : (Op.buildSlice t len parts).operands.toList.map ev = (parts.toList.map fun p => (p.1, ev p.2)).map (·.2) := by
        simp [Op.operands]
      rw [this]
      exact hb)
    rw [e1, hsl]
    simp only [e2]
    exact h
  | call k =>
    rw [hop] at h hev
    simp only at h ⊢
    cases hk : k.callee with
    | value f =>
      rw [hk] at h
      simp only at h ⊢
      have ef := hev f (by simp [Op.operands, Call.operands, hk])
      have ea : k.args.toList.map ev' = k.args.toList.map ev := List.map_congr_left (fun x hx => hev x (by simp only [Op.operands, Call.operands, hk, Array.toList_append, List.mem_append]; exact .inr hx))
      rw [ef, ea]
      cases hf : ev f with
      | fn g first cap =>
        rw [hf] at h
        simp only at h ⊢
        cases hs : c.sum g with
        | none => rw [hs] at h; cases h
        | some s =>
          rw [hs] at h
          simp only at h ⊢
          refine evCall_local hn h (fun acc hacc e he => hhp _ ?_) hown
          unfold touchA callTouch
          rw [List.mem_append]
          right
          simp only [hop, hk, hf, hacc]
          exact List.mem_map.2 ⟨e, he, rfl⟩
      | _ => rw [hf] at h; cases h
    | builtin b =>
      rw [hk] at h
      simp only at h ⊢
      have ea : k.args.toList.map ev' = k.args.toList.map ev := List.map_congr_left (fun x hx => hev x (by simp only [Op.operands, Call.operands, hk, Array.toList_append, List.mem_append]; exact .inr hx))
      rw [ea, evBuiltin_local (fun b hb => by
        refine hhp b ?_
        unfold touchA
        rw [List.mem_append]
        left
        have : o.op.operands.toList.map ev = k.args.toList.map ev := by rw [hop]; simp [Op.operands, Call.operands, hk]
        rw [this]
        exact hb) hown]
      exact h
    | invoke x y => rw [hk] at h; cases h
  | range t x => rw [hop] at h hev; simp only at h ⊢; rw [hsl, hev x (by simp [Op.operands])]; exact h
  | _ => rw [hop] at h; cases h
def bareOp : Op → Bool
  | .move _ | .assign _ | .pick _ _ _ | .extract _ _ => true
  | _ => false
end
def touchN (ev : Operand → SVal) (hp : HpF) (o : Oper) : List Nat := if bareOp o.op then [] else touchA ev hp o
theorem evOp_local {c : Ctx} {ev ev' : Operand → SVal} {hp hp' : HpF} {o : Oper} {r : Prop × SVal × List Ent} (hn : ∀ b e, hp b = some e → e.name = b) (h : evOp c ev hp o = some r) (hev : ∀ x ∈ o.op.operands.toList, ev' x = ev x)
    (hhp : ∀ b, b ∈ touchN ev hp o → hp' b = hp b) (hown : ∀ b, ownN (o.dst.getD 0) b = true → hp' b = hp b) : evOp c ev' hp' o = some r := by
  cases hb : bareOp o.op with
  | false => exact evOp_localA hn h hev (fun b hb' => hhp b (by unfold touchN; rw [hb]; exact hb')) hown
  | true =>
    unfold evOp at h ⊢
    simp only at h ⊢
    cases hop : o.op with
    | move x => rw [hop] at h hev; simp only at h ⊢; rw [hev x (by simp [Op.operands])]; exact h
    | assign x => rw [hop] at h hev; simp only at h ⊢; rw [hev x (by simp [Op.operands])]; exact h
    | pick cc x y => rw [hop] at h hev; simp only at h ⊢; rw [hev x (by simp [Op.operands]), hev y (by simp [Op.operands]), hev cc (by simp [Op.operands])]; exact h
    | extract t i => rw [hop] at h hev; simp only at h ⊢; rw [hev t (by simp [Op.operands])]; exact h
    | _ => rw [hop] at hb; cases hb
end Go.Sx

namespace Go.Sx
def nthO : List Oper → Nat → Option Oper
  | [], _ => none
  | o :: _, 0 => some o
  | _ :: r, n + 1 => nthO r n

def dstOf (ops : List Oper) (j : Nat) : Option Nat := match nthO ops j with
  | some o => o.dst
  | none => none

def putD (tm : List SVal) (d : Option Nat) (x : SVal) : List SVal := match d with
  | some d => setn tm d x
  | none => tm

def evO (c : Ctx) (o : Oper) (tm : List SVal) (hp : Hp) (K : List SVal → Hp → Prop) : Prop := match evNext (evA tm) (findE hp) o with
  | some f => ∀ more : Bool, match f more with
    | some (p, x, us) => p → K (putD tm o.dst x) (putsE hp us)
    | none => False
  | none => match evOp c (evA tm) (findE hp) o with
    | some (p, x, us) => p ∧ K (putD tm o.dst x) (putsE hp us)
    | none => False

def evL (c : Ctx) (ops : List Oper) : List Oper → List SVal → Hp → (List SVal → Hp → Prop) → Prop
  | [], tm, hp, K => K tm hp
  | o :: r, tm, hp, K => match o.guard with
    | none => evO c o tm hp fun tm hp => evL c ops r tm hp K
    | some (j, want) => match dstOf ops j with
      | some t => match nth tm t with
        | .v (.bool b) => (b = want → evO c o (setn tm t (.v (.bool want))) hp fun tm hp => evL c ops r tm hp K) ∧ (b = !want → evL c ops r (putD (setn tm t (.v (.bool !want))) o.dst (.tup [])) hp K)
        | .tup [] => evL c ops r (putD tm o.dst (.tup [])) hp K
        | _ => False
      | none => False

structure TrE where
  dst : Option Nat
  slots : List Nat
  touch : List Nat
  writes : List Nat

def tmpOf : Operand → List Nat
  | .tmp t => [t]
  | _ => []

def opSlots (ops : List Oper) (o : Oper) : List Nat := o.op.operands.toList.flatMap tmpOf ++ match o.guard with
  | some (j, _) => (dstOf ops j).toList
  | none => []

def trOn (ops : List Oper) (o : Oper) (tm : List SVal) (hp : Hp) (us : List Ent) : TrE := ⟨o.dst, opSlots ops o, touchN (evA tm) (findE hp) o, us.map (·.name)⟩
def trOff (ops : List Oper) (o : Oper) : TrE := ⟨o.dst, opSlots ops o, [], []⟩

def evD (c : Ctx) (ops : List Oper) : List Oper → List SVal → Hp → List TrE → (List SVal → Hp → List TrE → Prop) → Prop
  | [], tm, hp, tr, K => K tm hp tr
  | o :: r, tm, hp, tr, K => match o.guard with
    | none => match evOp c (evA tm) (findE hp) o with
      | some (p, x, us) => p ∧ evD c ops r (putD tm o.dst x) (putsE hp us) (tr ++ [trOn ops o tm hp us]) K
      | none => False
    | some (j, want) => match dstOf ops j with
      | some t => match nth tm t with
        | .v (.bool b) =>
          (b = want → match evOp c (evA (setn tm t (.v (.bool want)))) (findE hp) o with
            | some (p, x, us) => p ∧ evD c ops r (putD (setn tm t (.v (.bool want))) o.dst x) (putsE hp us) (tr ++ [trOn ops o (setn tm t (.v (.bool want))) hp us]) K
            | none => False) ∧
          (b = !want → evD c ops r (putD (setn tm t (.v (.bool !want))) o.dst (.tup [])) hp (tr ++ [trOff ops o]) K)
        | .tup [] => evD c ops r (putD tm o.dst (.tup [])) hp (tr ++ [trOff ops o]) K
        | _ => False
      | none => False

def maskOf (ms : List Nat) (o : Oper) : Nat := o.after.toList.foldl (fun s e => if Region.binds .any e then s ||| (2 ^ e.on ||| ms.getD e.on 0) else s) 0
def masks : List Oper → List Nat → List Nat
  | [], ms => ms
  | o :: r, ms => masks r (ms ++ [maskOf ms o])
def backOk : Nat → List Oper → Bool
  | _, [] => true
  | k, o :: r => o.after.toList.all (fun e => !Region.binds .any e || decide (e.on < k)) && backOk (k + 1) r

def clash (a b : TrE) : Bool :=
  (match a.dst with
    | some d => b.slots.contains d || b.dst == some d
    | none => false) ||
  (match b.dst with
    | some d => a.slots.contains d
    | none => false) ||
  a.writes.any (fun x => b.touch.contains x || b.writes.contains x || ownN (b.dst.getD 0) x) ||
  b.writes.any (fun x => a.touch.contains x || ownN (a.dst.getD 0) x)

def aheadOk (m : Nat) (t : TrE) : Nat → List TrE → Bool
  | _, [] => true
  | i, u :: r => (m.testBit i || !clash u t) && aheadOk m t (i + 1) r

def pairsOk : List TrE → List Nat → List TrE → Bool
  | _, _, [] => true
  | seen, m :: ms, t :: r => aheadOk m t 0 seen && pairsOk (seen ++ [t]) ms r
  | _, [], _ :: _ => false

def okT (ops : List Oper) (tr : List TrE) : Bool := backOk 0 ops && pairsOk [] (masks ops []) tr

def evR (c : Ctx) (ops : Array Oper) (draw : Bool) (tm : List SVal) (hp : Hp) (K : List SVal → Hp → Prop) : Prop :=
  if draw then evD c ops.toList ops.toList tm hp [] fun tm hp tr => okT ops.toList tr = true ∧ K tm hp else evL c ops.toList ops.toList tm hp K

structure Base (gl : Glob) where
  Fr : Nat → Prop
  RO : Nat → Prop
  ρ : Rho
  w : World
  gok : GL gl Fr RO w

def Rel {gl : Glob} (B : Base gl) (f : Nat → SVal) (hp : HpF) (n : Nat) (a : Act) (w : World) : Prop :=
  ∃ ρ own RO, HRel B.Fr RO ρ own hp w ∧ a.tmps.size = n ∧ (∀ t, t < n → D ρ (f t) (a.tmps.getD t undef)) ∧ a.defers = [] ∧ B.ρ.le ρ ∧ (∀ k, B.RO k → RO k) ∧ AdvD (Str gl) (fun k => B.RO k ∨ B.Fr k) B.w w

def evS (n : Nat) (f : Nat → SVal) : Operand → SVal
  | .tmp t => if t < n then f t else .undef
  | .const v => constS v
  | .global g => .v (.pointer (some ⟨g, 0, none⟩))
  | .func f => .fn f [] []

theorem nth_ge : ∀ (tm : List SVal) (t : Nat), tm.length ≤ t → nth tm t = .undef
  | [], _, _ => rfl
  | x :: r, 0, h => by simp at h
  | x :: r, t + 1, h => nth_ge r t (by simpa using h)

theorem evA_evS (tm : List SVal) : evA tm = evS tm.length (nth tm) := by
  funext x
  cases x with
  | tmp t =>
    simp only [evA, evS]
    by_cases h : t < tm.length
    · rw [if_pos h]
    · rw [if_neg h, nth_ge tm t (Nat.le_of_not_lt h)]
  | _ => rfl

theorem constS_D (ρ : Rho) (v : Value) : D ρ (constS v) v := by
  unfold constS
  split
  · rename_i cs
    exact ⟨cs, rfl, DL.vals _⟩
  · rename_i vs
    exact ⟨vs, rfl, DL.vals _⟩
  · rfl

theorem evS_D {ρ : Rho} {f : Nat → SVal} {n : Nat} {a : Act} (hn : a.tmps.size = n) (h : ∀ t, t < n → D ρ (f t) (a.tmps.getD t undef)) (x : Operand) : D ρ (evS n f x) (a.eval x) := by
  cases x with
  | tmp t =>
    simp only [evS, Act.eval]
    split
    · rename_i ht; exact h t ht
    · exact trivial
  | const v => exact constS_D ρ v
  | global g => rfl
  | func f => exact ⟨#[], #[], rfl, trivial, trivial⟩

theorem nth_setn : ∀ (tm : List SVal) (d : Nat) (x : SVal) (t : Nat), nth (setn tm d x) t = if d = t ∧ t < tm.length then x else nth tm t
  | [], d, x, t => by simp [setn, nth]
  | y :: r, 0, x, 0 => by simp [setn, nth]
  | y :: r, 0, x, t + 1 => by simp [setn, nth]
  | y :: r, d + 1, x, 0 => by simp [setn, nth]
  | y :: r, d + 1, x, t + 1 => by simp [setn, nth, nth_setn r d x t]

theorem setn_length : ∀ (tm : List SVal) (d : Nat) (x : SVal), (setn tm d x).length = tm.length
  | [], _, _ => rfl
  | _ :: _, 0, _ => rfl
  | _ :: r, d + 1, x => by simp [setn, setn_length r d x]
theorem putD_length (tm : List SVal) (d : Option Nat) (x : SVal) : (putD tm d x).length = tm.length := by
  cases d with
  | none => rfl
  | some d => exact setn_length tm d x

theorem setn_self : ∀ (tm : List SVal) (t : Nat), setn tm t (nth tm t) = tm
  | [], _ => rfl
  | x :: r, 0 => rfl
  | x :: r, t + 1 => by simp [setn, nth, setn_self r t]

theorem nth_putD (tm : List SVal) (d : Option Nat) (x : SVal) (t : Nat) (ht : t < tm.length) : nth (putD tm d x) t = if d = some t then x else nth tm t := by
  cases d with
  | none => simp [putD]
  | some d => simp [putD, nth_setn, ht]

theorem put_size (a : Act) (d : Option Tmp) (v : Value) : (a.put d v).tmps.size = a.tmps.size := by
  cases d <;> simp [Act.put]
theorem put_get (a : Act) (d : Option Tmp) (v : Value) (t : Nat) (ht : t < a.tmps.size) : (a.put d v).tmps.getD t undef = if d = some t then v else a.tmps.getD t undef := by
  cases d with
  | none => simp [Act.put]
  | some d =>
    simp only [Act.put, Option.some.injEq]
    by_cases h : d = t
    · subst h
      simp [Array.getD_eq_getD_getElem?, ht]
    · simp [h, Array.getD_eq_getD_getElem?, Array.getElem?_setIfInBounds]
theorem put_defers (a : Act) (d : Option Tmp) (v : Value) : (a.put d v).defers = a.defers := by
  cases d <;> rfl

theorem rel_step {P : Program} {c : Ctx} {gl : Glob} {B : Base gl} {f : Nat → SVal} {hp : HpF} {n : Nat} {a : Act} {w : World} {o : Oper} {x : SVal} {us : List Ent} (h : Rel B f hp n a w)
    (hs : ∀ ρ own RO, GL gl B.Fr RO w → HRel B.Fr RO ρ own hp w → (∀ y, D ρ (evS n f y) (a.eval y)) → Step (Str gl) P B.Fr RO ρ hp o a w x us)
    (next : Act → World → Prop) (Q : Exit → Act → World → Prop) (hn : ∀ a' w', Rel B (fun t => if o.dst = some t then x else f t) (putsF hp us) n a' w' → next a' w') : Oper.wp P o a w next Q := by
  obtain ⟨ρ, own, RO, H, hsz, ht, hd, h1, h2, h3⟩ := h
  refine hs ρ own RO (B.gok.adv h3.toAdv h2 (fun _ h => h)) H (fun y => evS_D hsz ht y) next Q ?_
  intro v w' ρ' own' RO' H' hdv hle hro hadv
  refine hn _ _ ⟨ρ', own', RO', H', by rw [put_size]; exact hsz, fun t htn => ?_, by rw [put_defers]; exact hd, Rho.le_trans h1 hle, fun k hk => hro k (h2 k hk), h3.trans (hadv.mono fun k hk => hk.elim (fun hk => .inl (h2 k hk)) .inr)⟩
  rw [put_get _ _ _ _ (by omega)]
  by_cases hd' : o.dst = some t
  · simp only [if_pos hd']; exact hdv
  · simp only [if_neg hd']; exact (ht t htn).mono hle

theorem rel_put {gl : Glob} {B : Base gl} {f : Nat → SVal} {hp : HpF} {n : Nat} {a : Act} {w : World} (h : Rel B f hp n a w) (d : Option Nat) {x : SVal} {v : Value} (hx : ∀ ρ, D ρ x v) :
    Rel B (fun t => if d = some t then x else f t) hp n (a.put d v) w := by
  obtain ⟨ρ, own, RO, H, hsz, ht, hd, h1, h2, h3⟩ := h
  refine ⟨ρ, own, RO, H, by rw [put_size]; exact hsz, fun t htn => ?_, by rw [put_defers]; exact hd, h1, h2, h3⟩
  rw [put_get _ _ _ _ (by omega)]
  by_cases hd' : d = some t
  · simp only [if_pos hd']; exact hx ρ
  · simp only [if_neg hd']; exact ht t htn

theorem rel_congr {gl : Glob} {B : Base gl} {f f' : Nat → SVal} {hp hp' : HpF} {n : Nat} {a : Act} {w : World} (h : Rel B f hp n a w) (hf : ∀ t, t < n → f' t = f t) (hh : ∀ b, hp' b = hp b) : Rel B f' hp' n a w := by
  obtain ⟨ρ, own, RO, H, hsz, ht, hd, h1, h2, h3⟩ := h
  have : hp' = hp := funext hh
  subst this
  exact ⟨ρ, own, RO, H, hsz, fun t htn => by rw [hf t htn]; exact ht t htn, hd, h1, h2, h3⟩

theorem step_of_ev {P : Program} {c : Ctx} (hc : CtxOK P c) {B : Base c.gl} {f : Nat → SVal} {hp : HpF} {n : Nat} {a : Act} {w : World} {o : Oper} {p : Prop} {x : SVal} {us : List Ent} (h : evOp c (evS n f) hp o = some (p, x, us)) (hp' : p) :
    ∀ ρ own RO, GL c.gl B.Fr RO w → HRel B.Fr RO ρ own hp w → (∀ y, D ρ (evS n f y) (a.eval y)) → Step (Str c.gl) P B.Fr RO ρ hp o a w x us :=
  fun _ _ _ hgl H hev => evOp_sound hc hgl H hev h hp'

theorem yield_of {ops : Array Oper} {j t : Nat} {gl : Glob} {B : Base gl} {f : Nat → SVal} {hp : HpF} {n : Nat} {a : Act} {w : World} (h : Rel B f hp n a w) (hj : dstOf ops.toList j = some t) :
    (∀ b, t < n → f t = .v (.bool b) → yielded ops a.tmps j = some b) ∧ (t < n → f t = .tup [] → yielded ops a.tmps j = none) := by
  obtain ⟨ρ, own, RO, H, hsz, ht, hd, _⟩ := h
  have hops : (ops[j]?).bind (·.dst) = some t := by
    have key : ∀ (l : List Oper) (j : Nat), nthO l j = l[j]? := by
      intro l
      induction l with
      | nil => intro j; rfl
      | cons x r ih => intro j; cases j with
        | zero => rfl
        | succ j => simpa [nthO] using ih j
    unfold dstOf at hj
    rw [key] at hj
    rw [← Array.getElem?_toList]
    cases hq : ops.toList[j]? with
    | none => rw [hq] at hj; cases hj
    | some o => rw [hq] at hj; exact hj
  constructor
  · intro b htn hf
    have hdt := ht t htn
    rw [hf] at hdt
    simp only [D] at hdt
    unfold yielded
    rw [hops]
    have : a.tmps[t]? = some (.bool b) := by
      rw [Array.getD_eq_getD_getElem?] at hdt
      cases hq : a.tmps[t]? with
      | none => rw [hq] at hdt; simp [undef] at hdt
      | some v => rw [hq] at hdt; simp at hdt; rw [hdt]
    simp [this]
  · intro htn hf
    have hdt := ht t htn
    rw [hf] at hdt
    obtain ⟨arr, h1, h2⟩ := hdt
    unfold yielded
    rw [hops]
    have : a.tmps[t]? = some (.tuple arr) := by
      rw [Array.getD_eq_getD_getElem?] at h1
      cases hq : a.tmps[t]? with
      | none =>
        have : t < a.tmps.size := by omega
        simp [this] at hq
      | some v => rw [hq] at h1; simp at h1; rw [h1]
    simp [this]

def RelL {gl : Glob} (B : Base gl) (tm : List SVal) (hp : Hp) (a : Act) (w : World) : Prop := Rel B (nth tm) (findE hp) tm.length a w

theorem relL_put {gl : Glob} {B : Base gl} {tm : List SVal} {hp : Hp} {d : Option Nat} {x : SVal} {us : List Ent} {a : Act} {w : World} (h : Rel B (fun t => if d = some t then x else nth tm t) (putsF (findE hp) us) tm.length a w) :
    RelL B (putD tm d x) (putsE hp us) a w := by
  unfold RelL
  rw [putD_length, findE_puts]
  exact rel_congr h (fun t ht => nth_putD tm d x t ht) (fun _ => rfl)

theorem evO_sound {P : Program} {c : Ctx} (hc : CtxOK P c) {B : Base c.gl} {ops : Array Oper} {rest : List Oper} {o : Oper} {tm : List SVal} {hp : Hp} {K : List SVal → Hp → Prop} {a : Act} {w : World} {Q : Exit → Act → World → Prop}
    (h : evO c o tm hp K) (hr : RelL B tm hp a w) (hk : ∀ tm' hp' a' w', tm'.length = tm.length → K tm' hp' → RelL B tm' hp' a' w' → wpList P ops Q rest a' w') : o.wp P a w (wpList P ops Q rest) Q := by
  unfold evO at h
  split at h
  · rename_i f hf
    -- which way?
    cases hT : f true with
    | none => have := h true; rw [hT] at this; exact this.elim
    | some r1 =>
      cases hF : f false with
      | none => have := h false; rw [hF] at this; exact this.elim
      | some r2 =>
        obtain ⟨p1, x1, us1⟩ := r1
        obtain ⟨p2, x2, us2⟩ := r2
        have h1 := h true
        have h2 := h false
        rw [hT] at h1
        rw [hF] at h2
        simp only at h1 h2
        by_cases hp1 : p1
        · refine rel_step hr (c := c) (x := x1) (us := us1) (fun ρ own RO _ H hev => evNext_sound H (ev := evS tm.length (nth tm)) hev (by rw [← evA_evS]; exact hf) hT hp1) _ Q ?_
          intro a' w' hr'
          exact hk _ _ a' w' (putD_length _ _ _) (h1 hp1) (relL_put hr')
        · have hp2 : p2 := by
            unfold evNext at hf
            split at hf
            · split at hf
              · split at hf
                · simp only [Option.some.injEq] at hf
                  subst hf
                  simp only [if_true, Option.some.injEq, Prod.mk.injEq] at hT
                  simp only [Bool.false_eq_true, if_false, Option.some.injEq, Prod.mk.injEq] at hF
                  rw [← hF.1]
                  rw [← hT.1] at hp1
                  exact hp1
                · cases hf
              · cases hf
            · cases hf
          refine rel_step hr (c := c) (x := x2) (us := us2) (fun ρ own RO _ H hev => evNext_sound H (ev := evS tm.length (nth tm)) hev (by rw [← evA_evS]; exact hf) hF hp2) _ Q ?_
          intro a' w' hr'
          exact hk _ _ a' w' (putD_length _ _ _) (h2 hp2) (relL_put hr')
  · split at h
    · rename_i p x us he
      obtain ⟨hp1, hK⟩ := h
      rw [evA_evS] at he
      refine rel_step hr (c := c) (x := x) (us := us) (step_of_ev hc he hp1) _ Q ?_
      intro a' w' hr'
      exact hk _ _ a' w' (putD_length _ _ _) hK (relL_put hr')
    · exact h.elim

theorem evL_sound {P : Program} {c : Ctx} (hc : CtxOK P c) {B : Base c.gl} {ops : Array Oper} {Q : Exit → Act → World → Prop} {K : List SVal → Hp → Prop} : ∀ (l : List Oper) (tm : List SVal) (hp : Hp) (a : Act) (w : World),
    evL c ops.toList l tm hp K → RelL B tm hp a w → (∀ tm' hp' a' w', tm'.length = tm.length → K tm' hp' → RelL B tm' hp' a' w' → Q .normal a' w') → wpList P ops Q l a w
  | [], tm, hp, a, w, h, hr, hq => wpList_nil (hq tm hp a w rfl h hr)
  | o :: r, tm, hp, a, w, h, hr, hq => by
    simp only [evL] at h
    unfold wpList
    split at h
    · rename_i hg
      rw [if_pos (by simp [Region.wanted, hg])]
      left
      exact evO_sound hc h hr (fun tm' hp' a' w' hl hK hr' => evL_sound hc r tm' hp' a' w' hK hr' (fun tm2 hp2 a2 w2 hl2 => hq tm2 hp2 a2 w2 (hl2.trans hl)))
    · rename_i j want hg
      split at h
      · rename_i t hj
        have htn : ∀ {x : SVal}, nth tm t = x → x ≠ .undef → t < tm.length := by
          intro x hx hne
          by_cases hlt : t < tm.length
          · exact hlt
          · exact absurd (by rw [← hx]; exact nth_ge tm t (by omega)) hne
        split at h
        · rename_i b hb
          have hlt := htn hb (by simp)
          have hy := (yield_of hr hj).1 b hlt hb
          by_cases hbw : b = want
          · subst hbw
            rw [if_pos (by simp [Region.wanted, hg, hy])]
            left
            have h1 := h.1 rfl
            rw [← hb, setn_self] at h1
            exact evO_sound hc h1 hr (fun tm' hp' a' w' hl hK hr' => evL_sound hc r tm' hp' a' w' hK hr' (fun tm2 hp2 a2 w2 hl2 => hq tm2 hp2 a2 w2 (hl2.trans hl)))
          · have hbn : b = !want := by cases b <;> cases want <;> simp_all
            rw [if_neg (by simp [Region.wanted, hg, hy, hbw])]
            have h2 := h.2 hbn
            rw [← hbn, ← hb, setn_self] at h2
            have hr2 : RelL B (putD tm o.dst (.tup [])) (putsE hp []) (a.put o.dst undef) w := relL_put (us := []) (rel_put hr o.dst (x := .tup []) (v := undef) (fun ρ => ⟨#[], rfl, trivial⟩))
            exact evL_sound hc r _ hp _ w h2 hr2 (fun tm2 hp2 a2 w2 hl2 => hq tm2 hp2 a2 w2 (hl2.trans (putD_length _ _ _)))
        · rename_i hb
          have hlt := htn hb (by simp)
          have hy := (yield_of hr hj).2 hlt hb
          rw [if_neg (by simp [Region.wanted, hg, hy])]
          have hr2 : RelL B (putD tm o.dst (.tup [])) (putsE hp []) (a.put o.dst undef) w := relL_put (us := []) (rel_put hr o.dst (x := .tup []) (v := undef) (fun ρ => ⟨#[], rfl, trivial⟩))
          exact evL_sound hc r _ hp _ w h hr2 (fun tm2 hp2 a2 w2 hl2 => hq tm2 hp2 a2 w2 (hl2.trans (putD_length _ _ _)))
        · exact h.elim
      · exact h.elim
end Go.Sx

namespace Go.Sx
structure Rec where
  ran : Bool
  x : SVal
  us : List Ent
  t : TrE

def gOn (ops : List Oper) (tm : List SVal) (o : Oper) : Prop := match o.guard with
  | none => True
  | some (j, want) => ∃ t, dstOf ops j = some t ∧ nth tm t = .v (.bool want)
def gOff (ops : List Oper) (tm : List SVal) (o : Oper) : Prop := match o.guard with
  | none => False
  | some (j, want) => ∃ t, dstOf ops j = some t ∧ (nth tm t = .v (.bool !want) ∨ nth tm t = .tup [])

def RecOK (c : Ctx) (ops : List Oper) (o : Oper) (tm : List SVal) (hp : Hp) (r : Rec) : Prop :=
  (r.ran = true ∧ gOn ops tm o ∧ (∃ p, evOp c (evA tm) (findE hp) o = some (p, r.x, r.us) ∧ p) ∧ r.t = trOn ops o tm hp r.us) ∨
  (r.ran = false ∧ gOff ops tm o ∧ r.x = .tup [] ∧ r.us = [] ∧ r.t = trOff ops o)

def RunOK (c : Ctx) (ops : List Oper) : List Oper → List SVal → Hp → List Rec → Prop
  | [], _, _, [] => True
  | o :: l, tm, hp, r :: rs => RecOK c ops o tm hp r ∧ RunOK c ops l (putD tm o.dst r.x) (putsE hp r.us) rs
  | _, _, _, _ => False

def finalTm : List Oper → List Rec → List SVal → List SVal
  | o :: l, r :: rs, tm => finalTm l rs (putD tm o.dst r.x)
  | _, _, tm => tm
def finalHp : List Rec → Hp → Hp
  | [], hp => hp
  | r :: rs, hp => finalHp rs (putsE hp r.us)

theorem evD_run {c : Ctx} {ops : List Oper} {K : List SVal → Hp → List TrE → Prop} : ∀ (l : List Oper) (tm : List SVal) (hp : Hp) (tr : List TrE), evD c ops l tm hp tr K →
    ∃ recs, RunOK c ops l tm hp recs ∧ K (finalTm l recs tm) (finalHp recs hp) (tr ++ recs.map (·.t))
  | [], tm, hp, tr, h => ⟨[], trivial, by unfold evD at h; simpa [finalTm, finalHp] using h⟩
  | o :: l, tm, hp, tr, h => by
    have fin : ∀ (r : Rec), RecOK c ops o tm hp r → evD c ops l (putD tm o.dst r.x) (putsE hp r.us) (tr ++ [r.t]) K → ∃ recs, RunOK c ops (o :: l) tm hp recs ∧ K (finalTm (o :: l) recs tm) (finalHp recs hp) (tr ++ recs.map (·.t)) := by
      intro r hr h
      obtain ⟨recs, h1, h2⟩ := evD_run l _ _ _ h
      exact ⟨r :: recs, ⟨hr, h1⟩, by simpa [finalTm, finalHp] using h2⟩
    simp only [evD] at h
    split at h
    · rename_i hg
      split at h
      · rename_i p x us he
        exact fin ⟨true, x, us, trOn ops o tm hp us⟩ (.inl ⟨rfl, by simp [gOn, hg], ⟨p, he, h.1⟩, rfl⟩) h.2
      · exact h.elim
    · rename_i j want hg
      split at h
      · rename_i t hj
        split at h
        · rename_i b hb
          by_cases hbw : b = want
          · subst hbw
            have h1 := h.1 rfl
            rw [← hb, setn_self] at h1
            split at h1
            · rename_i p x us he
              exact fin ⟨true, x, us, trOn ops o tm hp us⟩ (.inl ⟨rfl, by simp only [gOn, hg]; exact ⟨t, hj, hb⟩, ⟨p, he, h1.1⟩, rfl⟩) h1.2
            · exact h1.elim
          · have hbn : b = !want := by cases b <;> cases want <;> simp_all
            have h2 := h.2 hbn
            rw [← hbn, ← hb, setn_self] at h2
            exact fin ⟨false, .tup [], [], trOff ops o⟩ (.inr ⟨rfl, by simp only [gOff, hg]; exact ⟨t, hj, .inl (by rw [hb, hbn])⟩, rfl, rfl, rfl⟩) h2
        · rename_i hb
          exact fin ⟨false, .tup [], [], trOff ops o⟩ (.inr ⟨rfl, by simp only [gOff, hg]; exact ⟨t, hj, .inr hb⟩, rfl, rfl, rfl⟩) h
        · exact h.elim
      · exact h.elim

abbrev Loc := Nat ⊕ Nat
abbrev Val := SVal ⊕ Option Ent

def toS (tm : List SVal) (hp : Hp) : Loc → Val
  | .inl t => .inl (nth tm t)
  | .inr b => .inr (findE hp b)

def tmS (S : Loc → Val) (t : Nat) : SVal := match S (.inl t) with
  | .inl x => x
  | .inr _ => .undef
def hpS (S : Loc → Val) (b : Nat) : Option Ent := match S (.inr b) with
  | .inr e => e
  | .inl _ => none

def recW (n : Nat) (o : Oper) (r : Rec) : List (Loc × Val) :=
  (match o.dst with
    | some d => if d < n then [(.inl d, .inl r.x)] else []
    | none => []) ++ r.us.map fun e => (.inr e.name, .inr (some e))

theorem applyW_append {L V : Type} [DecidableEq L] (S : L → V) (a b : List (L × V)) : applyW S (a ++ b) = applyW (applyW S a) b := by
  induction a generalizing S with
  | nil => rfl
  | cons x r ih => obtain ⟨l, v⟩ := x; exact ih _

theorem applyW_ents : ∀ (us : List Ent) (S : Loc → Val), (∀ t, applyW S (us.map fun e => ((.inr e.name : Loc), (.inr (some e) : Val))) (.inl t) = S (.inl t)) ∧
    hpS (applyW S (us.map fun e => ((.inr e.name : Loc), (.inr (some e) : Val)))) = putsF (hpS S) us
  | [], S => ⟨fun _ => rfl, rfl⟩
  | e :: r, S => by
    simp only [List.map_cons, applyW, putsF]
    obtain ⟨h1, h2⟩ := applyW_ents r (fun x => if x = Sum.inr e.name then .inr (some e) else S x)
    refine ⟨fun t => by rw [h1]; simp, ?_⟩
    rw [h2]
    congr 1
    funext b
    unfold hpS
    by_cases hb : e.name = b
    · simp [hb]
    · simp [hb, show ¬ b = e.name from fun h => hb h.symm]

theorem tmS_apply (n : Nat) (o : Oper) (r : Rec) (S : Loc → Val) (t : Nat) (ht : t < n) : tmS (applyW S (recW n o r)) t = if o.dst = some t then r.x else tmS S t := by
  unfold recW
  rw [applyW_append]
  unfold tmS
  rw [(applyW_ents r.us _).1]
  cases hd : o.dst with
  | none => simp [applyW]
  | some d =>
    simp only
    by_cases hdn : d < n
    · rw [if_pos hdn]
      simp only [applyW]
      by_cases hdt : t = d
      · subst hdt; simp
      · simp [hdt, show ¬ d = t from fun h => hdt h.symm]
    · rw [if_neg hdn]
      simp only [applyW]
      rw [if_neg (fun h => by cases h; exact hdn ht)]

theorem hpS_apply (n : Nat) (o : Oper) (r : Rec) (S : Loc → Val) : hpS (applyW S (recW n o r)) = putsF (hpS S) r.us := by
  unfold recW
  rw [applyW_append, (applyW_ents r.us _).2]
  congr 1
  funext b
  unfold hpS
  cases hd : o.dst with
  | none => rfl
  | some d =>
    by_cases hdn : d < n
    · simp only [if_pos hdn, applyW]
      simp
    · simp only [if_neg hdn, applyW]

def allW (n : Nat) : List Oper → List Rec → List (List (Loc × Val))
  | o :: l, r :: rs => recW n o r :: allW n l rs
  | _, _ => []

theorem tmS_toS (tm : List SVal) (hp : Hp) (t : Nat) : tmS (toS tm hp) t = nth tm t := rfl
theorem hpS_toS (tm : List SVal) (hp : Hp) : hpS (toS tm hp) = findE hp := rfl

def Alike (n : Nat) (S S' : Loc → Val) : Prop := (∀ t, t < n → tmS S t = tmS S' t) ∧ hpS S = hpS S'

theorem step_alike (n : Nat) (o : Oper) (r : Rec) (S : Loc → Val) (tm : List SVal) (hp : Hp) (hn : tm.length = n) (h : Alike n S (toS tm hp)) : Alike n (applyW S (recW n o r)) (toS (putD tm o.dst r.x) (putsE hp r.us)) := by
  refine ⟨fun t ht => ?_, ?_⟩
  · rw [tmS_apply n o r S t ht, tmS_toS, nth_putD tm o.dst r.x t (by omega), h.1 t ht, tmS_toS]
  · rw [hpS_apply, hpS_toS, findE_puts, h.2, hpS_toS]

theorem run_prefix {c : Ctx} {ops : List Oper} {n : Nat} (l : List Oper) : ∀ (recs : List Rec) (tm : List SVal) (hp : Hp) (S : Loc → Val), RunOK c ops l tm hp recs → tm.length = n → Alike n S (toS tm hp) →
    (allW n l recs).length = l.length ∧ recs.length = l.length ∧
    (∀ (i : Nat) (o : Oper), l[i]? = some o → ∃ r tm' hp', recs[i]? = some r ∧ (allW n l recs)[i]? = some (recW n o r) ∧ tm'.length = n ∧ RecOK c ops o tm' hp' r ∧ Alike n (((allW n l recs).take i).foldl applyW S) (toS tm' hp')) ∧
    Alike n ((allW n l recs).foldl applyW S) (toS (finalTm l recs tm) (finalHp recs hp)) ∧ (finalTm l recs tm).length = n := by
  induction l with
  | nil =>
    intro recs tm hp S h hn ha
    cases recs with
    | nil => exact ⟨rfl, rfl, fun i o h => by simp at h, ha, hn⟩
    | cons r rs => exact h.elim
  | cons o l ih =>
    intro recs tm hp S h hn ha
    cases recs with
    | nil => exact h.elim
    | cons r rs =>
      obtain ⟨h1, h2⟩ := h
      obtain ⟨k1, k2, k3, k4, k5⟩ := ih rs _ _ (applyW S (recW n o r)) h2 (by rw [putD_length]; exact hn) (step_alike n o r S tm hp hn ha)
      refine ⟨by simp only [allW, List.length_cons, k1], by simp only [List.length_cons, k2], fun i o' ho' => ?_, k4, k5⟩
      cases i with
      | zero =>
        rw [List.getElem?_cons_zero] at ho'
        cases ho'
        exact ⟨r, tm, hp, rfl, rfl, hn, h1, ha⟩
      | succ i =>
        rw [List.getElem?_cons_succ] at ho'
        obtain ⟨r', tm', hp', e1, e2, e3, e4, e5⟩ := k3 i o' ho'
        exact ⟨r', tm', hp', e1, e2, e3, e4, e5⟩

theorem masks_prefix : ∀ (l : List Oper) (ms : List Nat), ∃ r, masks l ms = ms ++ r ∧ r.length = l.length
  | [], ms => ⟨[], by simp [masks], rfl⟩
  | o :: l, ms => by
    obtain ⟨r, h1, h2⟩ := masks_prefix l (ms ++ [maskOf ms o])
    exact ⟨maskOf ms o :: r, by simp [masks, h1], by simp [h2]⟩

theorem masks_at (l : List Oper) : ∀ (ms : List Nat) (i : Nat) (o : Oper), l[i]? = some o → ∃ ms' r, masks l ms = ms' ++ (maskOf ms' o :: r) ∧ ms'.length = ms.length + i := by
  induction l with
  | nil => intro ms i o h; simp at h
  | cons o l ih =>
    intro ms i o' h
    cases i with
    | zero =>
      rw [List.getElem?_cons_zero] at h
      cases h
      obtain ⟨r, h1, _⟩ := masks_prefix l (ms ++ [maskOf ms o])
      exact ⟨ms, r, by simp only [masks, h1, List.append_assoc, List.singleton_append], rfl⟩
    | succ i =>
      rw [List.getElem?_cons_succ] at h
      obtain ⟨ms', r, h1, h2⟩ := ih (ms ++ [maskOf ms o]) i o' h
      exact ⟨ms', r, h1, by rw [h2, List.length_append]; simp; omega⟩

theorem mask_bit (ms : List Nat) (o : Oper) (i : Nat) (h : (maskOf ms o).testBit i = true) : ∃ e ∈ o.after.toList, Region.binds .any e = true ∧ (e.on = i ∨ (ms.getD e.on 0).testBit i = true) := by
  have key : ∀ (l : List Edge) (s : Nat), (l.foldl (fun s e => if Region.binds .any e then s ||| (2 ^ e.on ||| ms.getD e.on 0) else s) s).testBit i = true → s.testBit i = true ∨ ∃ e ∈ l, Region.binds .any e = true ∧ (e.on = i ∨ (ms.getD e.on 0).testBit i = true) := by
    intro l
    induction l with
    | nil => intro s h; exact .inl h
    | cons e r ih =>
      intro s h
      rw [List.foldl_cons] at h
      rcases ih _ h with h1 | ⟨e', h1, h2⟩
      · split at h1
        · rename_i hb
          rw [Nat.testBit_or, Nat.testBit_or, Bool.or_eq_true, Bool.or_eq_true] at h1
          rcases h1 with h1 | h1 | h1
          · exact .inl h1
          · rw [Nat.testBit_two_pow] at h1
            exact .inr ⟨e, by simp, hb, .inl (by simpa using h1)⟩
          · exact .inr ⟨e, by simp, hb, .inr h1⟩
        · exact .inl h1
      · exact .inr ⟨e', by simp [h1], h2⟩
  rcases key _ 0 h with h1 | h1
  · simp at h1
  · exact h1

theorem backOk_at (l : List Oper) : ∀ (k i : Nat) (o : Oper), backOk k l = true → l[i]? = some o → ∀ e ∈ o.after.toList, Region.binds .any e = true → e.on < k + i := by
  induction l with
  | nil => intro k i o _ h; simp at h
  | cons o l ih =>
    intro k i o' h ho e he hb
    simp only [backOk, Bool.and_eq_true, List.all_eq_true, Bool.or_eq_true, Bool.not_eq_true', decide_eq_true_eq] at h
    cases i with
    | zero =>
      rw [List.getElem?_cons_zero] at ho
      cases ho
      rcases h.1 e he with h1 | h1
      · rw [hb] at h1; cases h1
      · exact h1
    | succ i =>
      rw [List.getElem?_cons_succ] at ho
      have := ih (k + 1) i o' h.2 ho e he hb
      omega

theorem mask_done {l : List Oper} (hb : backOk 0 l = true) (D : Nat → Bool) (hD : ∀ j o, l[j]? = some o → D j = true → ∀ e ∈ o.after.toList, Region.binds .any e = true → D e.on = true) :
    ∀ (j : Nat) (o : Oper), l[j]? = some o → (∀ e ∈ o.after.toList, Region.binds .any e = true → D e.on = true) → ∀ i, ((masks l []).getD j 0).testBit i = true → D i = true := by
  intro j
  induction j using Nat.strongRecOn with
  | _ j ih =>
    intro o ho hpre i hi
    obtain ⟨ms', r, h1, h2⟩ := masks_at l [] j o ho
    simp only [List.length_nil, Nat.zero_add] at h2
    have hget : (masks l []).getD j 0 = maskOf ms' o := by
      rw [h1, List.getD_eq_getElem?_getD, List.getElem?_append_right (by omega)]
      simp [h2]
    rw [hget] at hi
    obtain ⟨e, he, hbind, hor⟩ := mask_bit ms' o i hi
    have hlt := backOk_at l 0 j o hb ho e he hbind
    rw [Nat.zero_add] at hlt
    have hDe := hpre e he hbind
    rcases hor with rfl | hor
    · exact hDe
    · have hjl : j < l.length := (List.getElem?_eq_some_iff.1 ho).1
      obtain ⟨o2, ho2⟩ : ∃ o2, l[e.on]? = some o2 := ⟨l[e.on]'(by omega), List.getElem?_eq_getElem (by omega)⟩
      refine ih e.on hlt o2 ho2 (fun e2 he2 hb2 => hD e.on o2 ho2 hDe e2 he2 hb2) i ?_
      rw [h1, List.getD_eq_getElem?_getD, List.getElem?_append_left (by omega)]
      rw [List.getD_eq_getElem?_getD] at hor
      exact hor

theorem aheadOk_at {m : Nat} {t : TrE} (l : List TrE) : ∀ (k i : Nat) (u : TrE), aheadOk m t k l = true → l[i]? = some u → m.testBit (k + i) = true ∨ clash u t = false := by
  induction l with
  | nil => intro k i u _ h; simp at h
  | cons v l ih =>
    intro k i u h hu
    simp only [aheadOk, Bool.and_eq_true, Bool.or_eq_true, Bool.not_eq_true'] at h
    cases i with
    | zero =>
      rw [List.getElem?_cons_zero] at hu
      cases hu
      exact h.1
    | succ i =>
      rw [List.getElem?_cons_succ] at hu
      have := ih (k + 1) i u h.2 hu
      rwa [Nat.add_assoc, Nat.add_comm 1] at this

theorem pairsOk_at (l : List TrE) : ∀ (ms : List Nat) (seen : List TrE) (j : Nat) (t : TrE), pairsOk seen ms l = true → l[j]? = some t → ∀ i u, (seen ++ l)[i]? = some u → i < seen.length + j → (ms.getD j 0).testBit i = true ∨ clash u t = false := by
  induction l with
  | nil => intro ms seen j t _ h; simp at h
  | cons v l ih =>
    intro ms seen j t h ht i u hu hi
    cases ms with
    | nil => simp [pairsOk] at h
    | cons m ms =>
      simp only [pairsOk, Bool.and_eq_true] at h
      cases j with
      | zero =>
        rw [List.getElem?_cons_zero] at ht
        cases ht
        have := aheadOk_at seen 0 i u h.1 (by rwa [List.getElem?_append_left (by omega)] at hu)
        rwa [Nat.zero_add] at this
      | succ j =>
        rw [List.getElem?_cons_succ] at ht
        have := ih ms (seen ++ [v]) j t h.2 ht i u (by rw [List.append_assoc]; exact hu) (by rw [List.length_append]; simp; omega)
        exact this
end Go.Sx

namespace Go.Sx
theorem countP_lt {p q : Nat → Bool} (l : List Nat) (hpq : ∀ j, q j = true → p j = true) {i : Nat} (hi : i ∈ l) (h1 : p i = true) (h2 : q i = false) : l.countP q < l.countP p := by
  induction l with
  | nil => simp at hi
  | cons x r ih =>
    have hle : r.countP q ≤ r.countP p := List.countP_mono_left (fun j _ h => hpq j h)
    by_cases hx : i = x
    · subst hx
      rw [List.countP_cons_of_pos h1, List.countP_cons_of_neg (by simp [h2])]
      omega
    · have := ih (by simpa [hx] using hi)
      by_cases hq : q x = true
      · rw [List.countP_cons_of_pos (hpq x hq), List.countP_cons_of_pos hq]; omega
      · rw [List.countP_cons_of_neg hq]
        by_cases hp : p x = true
        · rw [List.countP_cons_of_pos hp]; omega
        · rw [List.countP_cons_of_neg hp]; exact this

theorem dom_slot {n : Nat} {o : Oper} {r : Rec} {d : Nat} (h : domW (recW n o r) (.inl d)) : o.dst = some d := by
  obtain ⟨v, hv⟩ := h
  unfold recW at hv
  rw [List.mem_append] at hv
  rcases hv with hv | hv
  · cases hd : o.dst with
    | none => simp [hd] at hv
    | some d' =>
      simp only [hd] at hv
      split at hv
      · simp at hv; rw [hv.1]
      · simp at hv
  · simp at hv
theorem dom_name {n : Nat} {o : Oper} {r : Rec} {b : Nat} (h : domW (recW n o r) (.inr b)) : b ∈ r.us.map (·.name) := by
  obtain ⟨v, hv⟩ := h
  unfold recW at hv
  rw [List.mem_append] at hv
  rcases hv with hv | hv
  · cases hd : o.dst with
    | none => simp [hd] at hv
    | some d' =>
      simp only [hd] at hv
      split at hv
      · simp at hv
      · simp at hv
  · simp only [List.mem_map, Prod.mk.injEq, Sum.inr.injEq] at hv
    obtain ⟨e, he, h1, _⟩ := hv
    exact List.mem_map.2 ⟨e, he, h1⟩

theorem rec_dst {c : Ctx} {ops : List Oper} {o : Oper} {tm : List SVal} {hp : Hp} {r : Rec} (h : RecOK c ops o tm hp r) : r.t.dst = o.dst ∧ r.t.slots = opSlots ops o ∧ r.t.writes = r.us.map (·.name) := by
  rcases h with ⟨_, _, _, ht⟩ | ⟨_, _, _, hu, ht⟩
  · rw [ht]; exact ⟨rfl, rfl, rfl⟩
  · rw [ht, hu]; exact ⟨rfl, rfl, rfl⟩

theorem clash_slot {a b : TrE} (h : clash a b = false) : (∀ d, a.dst = some d → d ∉ b.slots ∧ b.dst ≠ some d) ∧ (∀ d, b.dst = some d → d ∉ a.slots) ∧
    (∀ x ∈ a.writes, x ∉ b.touch ∧ x ∉ b.writes ∧ ownN (b.dst.getD 0) x = false) ∧ (∀ x ∈ b.writes, x ∉ a.touch ∧ ownN (a.dst.getD 0) x = false) := by
  unfold clash at h
  simp only [Bool.or_eq_false_iff, List.any_eq_false] at h
  obtain ⟨⟨⟨h1, h2⟩, h3⟩, h4⟩ := h
  refine ⟨fun d hd => ?_, fun d hd => ?_, fun x hx => ?_, fun x hx => ?_⟩
  · rw [hd] at h1
    simp at h1
    exact h1
  · rw [hd] at h2
    simpa using h2
  · have := h3 x hx
    simp at this
    exact ⟨this.1.1, this.1.2, this.2⟩
  · have := h4 x hx
    simp at this
    exact this

def looks (t : TrE) : Loc → Prop
  | .inl d => d ∈ t.slots
  | .inr b => b ∈ t.touch ∨ ownN (t.dst.getD 0) b = true

section
variable {P : Program} {c : Ctx} {B : Base c.gl} {ops : Array Oper} {Q : Exit → Act → World → Prop}
theorem region_any (hc : CtxOK P c) {tm : List SVal} {hp : Hp} {n : Nat} (hn : tm.length = n) {recs : List Rec} (hrun : RunOK c ops.toList ops.toList tm hp recs) (hok : okT ops.toList (recs.map (·.t)) = true)
    (hQ : ∀ a w, RelL B (finalTm ops.toList recs tm) (finalHp recs hp) a w → Q .normal a w) :
    ∀ (fuel : Nat) (listed : Array Bool) (a : Act) (w : World), listed.size = ops.size → (List.range ops.size).countP (fun j => !listed.getD j true) ≤ fuel →
      (∀ j o, ops[j]? = some o → listed.getD j false = true → ∀ e ∈ o.after, Region.binds .any e = true → listed.getD e.on false = true) →
      Rel B (tmS (foldD (fun j => listed.getD j false) 0 (allW n ops.toList recs) (toS tm hp))) (hpS (foldD (fun j => listed.getD j false) 0 (allW n ops.toList recs) (toS tm hp))) n a w →
      wpAny P .any ops Q fuel listed a w := by
  obtain ⟨hback, hpairs⟩ : backOk 0 ops.toList = true ∧ pairsOk [] (masks ops.toList []) (recs.map (·.t)) = true := by
    unfold okT at hok
    simpa using hok
  obtain ⟨k1, k2, k3, k4, k5⟩ := run_prefix (c := c) (ops := ops.toList) (n := n) ops.toList recs tm hp (toS tm hp) hrun hn ⟨fun _ _ => rfl, rfl⟩
  -- what a record's number says
  have look : ∀ (i : Nat) (o : Oper), ops[i]? = some o → ∃ r, recs[i]? = some r ∧ (allW n ops.toList recs)[i]? = some (recW n o r) ∧ r.t.dst = o.dst ∧ r.t.slots = opSlots ops.toList o ∧ r.t.writes = r.us.map (·.name) := by
    intro i o ho
    obtain ⟨r, tm', hp', e1, e2, _, e4, _⟩ := k3 i o (by rw [Array.getElem?_toList]; exact ho)
    obtain ⟨d1, d2, d3⟩ := rec_dst e4
    exact ⟨r, e1, e2, d1, d2, d3⟩
  have pair : ∀ (i j : Nat) (ri rj : Rec), i < j → recs[i]? = some ri → recs[j]? = some rj → ((masks ops.toList []).getD j 0).testBit i = true ∨ clash ri.t rj.t = false := by
    intro i j ri rj hij hi hj
    exact pairsOk_at (recs.map (·.t)) (masks ops.toList []) [] j rj.t hpairs (by rw [List.getElem?_map, hj]; rfl) i ri.t (by rw [List.nil_append, List.getElem?_map, hi]; rfl) (by simpa using hij)
  have wrote : ∀ (j : Nat) (ws : List (Loc × Val)), (allW n ops.toList recs)[j]? = some ws → ∃ o r, ops[j]? = some o ∧ recs[j]? = some r ∧ ws = recW n o r ∧ r.t.dst = o.dst ∧ r.t.slots = opSlots ops.toList o ∧ r.t.writes = r.us.map (·.name) := by
    intro j ws hj
    have hlt : j < ops.toList.length := by rw [← k1]; exact (List.getElem?_eq_some_iff.1 hj).1
    have hlt' : j < ops.size := by simpa using hlt
    obtain ⟨r, e1, e2, e3, e4, e5⟩ := look j ops[j] (Array.getElem?_eq_getElem hlt')
    rw [hj] at e2
    cases e2
    exact ⟨ops[j], r, Array.getElem?_eq_getElem hlt', e1, rfl, e3, e4, e5⟩
  have domT : ∀ (o : Oper) (r : Rec) (l : Loc), r.t.dst = o.dst → r.t.writes = r.us.map (·.name) → domW (recW n o r) l → (match l with
      | .inl d => r.t.dst = some d
      | .inr b => b ∈ r.t.writes) := by
    intro o r l h1 h2 h3
    cases l with
    | inl d => simp only; rw [h1]; exact dom_slot h3
    | inr b => simp only; rw [h2]; exact dom_name h3
  intro fuel
  induction fuel with
  | zero =>
    intro listed a w hsz hcount hclosed hrel
    have hall : ∀ j, j < ops.size → listed.getD j false = true := by
      intro j hj
      have := List.countP_eq_zero.1 (Nat.le_zero.1 hcount) j (List.mem_range.2 hj)
      simp only [Bool.not_eq_true', Bool.not_eq_false] at this
      have hj' : j < listed.size := by omega
      simp only [Array.getD_eq_getD_getElem?, Array.getElem?_eq_getElem hj', Option.getD_some] at this ⊢
      exact this
    refine ⟨?_, hQ a w ?_⟩
    · cases hr : Region.ready .any ops listed with
      | nil => rfl
      | cons x xs =>
        have hm : x ∈ Region.ready .any ops listed := by rw [hr]; simp
        obtain ⟨h0, o, ho, _⟩ := mem_ready.1 hm
        have hlt := (Array.getElem?_eq_some_iff.1 ho).1
        have := hall x hlt
        have hj' : x < listed.size := by omega
        simp only [Array.getD_eq_getD_getElem?, Array.getElem?_eq_getElem hj', Option.getD_some] at this h0
        rw [this] at h0; cases h0
    · rw [foldD_all _ 0 _ _ (fun j hj => by rw [Nat.zero_add]; exact hall j (by rw [k1] at hj; simpa using hj))] at hrel
      unfold RelL
      rw [k5]
      refine rel_congr hrel (fun t ht => ?_) (fun b => ?_)
      · rw [k4.1 t ht]; rfl
      · rw [k4.2]; rfl
  | succ fuel ih =>
    intro listed a w hsz hcount hclosed hrel
    have ready0 : Region.ready .any ops listed = [] → ∀ j, j < ops.size → listed.getD j false = true := by
      intro hr j
      induction j using Nat.strongRecOn with
      | _ j ihj =>
        intro hj
        have ho : ops[j]? = some ops[j] := Array.getElem?_eq_getElem hj
        cases hb : listed.getD j false with
        | true => rfl
        | false =>
          exfalso
          have : j ∈ Region.ready .any ops listed := by
            rw [mem_ready]
            refine ⟨?_, ops[j], ho, fun e he hbind => ?_⟩
            · have hj' : j < listed.size := by omega
              simp only [Array.getD_eq_getD_getElem?, Array.getElem?_eq_getElem hj', Option.getD_some] at hb ⊢
              exact hb
            · have hlt := backOk_at ops.toList 0 j ops[j] hback (by rw [Array.getElem?_toList]; exact ho) e (by simpa using he) hbind
              rw [Nat.zero_add] at hlt
              exact ihj e.on hlt (by omega)
          rw [hr] at this
          simp at this
    refine ⟨fun hr => hQ a w ?_, fun i hi => ?_⟩
    · have hall := ready0 hr
      rw [foldD_all _ 0 _ _ (fun j hj => by rw [Nat.zero_add]; exact hall j (by rw [k1] at hj; simpa using hj))] at hrel
      unfold RelL
      rw [k5]
      refine rel_congr hrel (fun t ht => ?_) (fun b => ?_)
      · rw [k4.1 t ht]; rfl
      · rw [k4.2]; rfl
    · obtain ⟨hun, o, ho, hpre⟩ := mem_ready.1 hi
      have hilt : i < ops.size := (Array.getElem?_eq_some_iff.1 ho).1
      have hDi : listed.getD i false = false := by
        have hj' : i < listed.size := by omega
        simp only [Array.getD_eq_getD_getElem?, Array.getElem?_eq_getElem hj', Option.getD_some] at hun ⊢
        exact hun
      obtain ⟨r, tm', hp', e1, e2, e3, e4, e5⟩ := k3 i o (by rw [Array.getElem?_toList]; exact ho)
      obtain ⟨d1, d2, d3⟩ := rec_dst e4
      have hclosed' : ∀ j o, ops.toList[j]? = some o → listed.getD j false = true → ∀ e ∈ o.after.toList, Region.binds .any e = true → listed.getD e.on false = true := by
        intro j o' ho' hj e he hb
        exact hclosed j o' (by rw [← Array.getElem?_toList]; exact ho') hj e (by simpa using he) hb
      have done := mask_done hback (fun j => listed.getD j false) hclosed'
      -- earlier and bound: listed
      have early : ∀ j, ((masks ops.toList []).getD i 0).testBit j = true → listed.getD j false = true :=
        done i o (by rw [Array.getElem?_toList]; exact ho) (fun e he hb => hpre e (by simpa using he) hb)
      have late : ∀ j oj, ops[j]? = some oj → ((masks ops.toList []).getD j 0).testBit i = true → listed.getD j false = false := by
        intro j oj hoj hbit
        cases hj : listed.getD j false with
        | false => rfl
        | true =>
          have := done j oj (by rw [Array.getElem?_toList]; exact hoj) (hclosed' j oj (by rw [Array.getElem?_toList]; exact hoj) hj) i hbit
          rw [hDi] at this
          cases this
      -- what i reads is as in the text's order
      have agree : ∀ l, looks r.t l → foldD (fun j => listed.getD j false) 0 (allW n ops.toList recs) (toS tm hp) l = ((allW n ops.toList recs).take i).foldl applyW (toS tm hp) l := by
        intro l hl
        rw [← foldD_prefix 0 i]
        refine foldD_agree _ _ 0 _ _ _ (fun j ws hj hw => ?_) rfl
        rw [Nat.zero_add, Nat.zero_add]
        obtain ⟨oj, rj, hoj, hrj, rfl, f1, f2, f3⟩ := wrote j ws hj
        have hdom := domT oj rj l f1 f3 hw
        rcases Nat.lt_trichotomy j i with hji | hji | hji
        · rw [decide_eq_true hji]
          rcases pair j i rj r hji hrj e1 with hb | hcl
          · exact early j hb
          · exfalso
            obtain ⟨c1, c2, c3, c4⟩ := clash_slot hcl
            cases l with
            | inl d => exact (c1 d hdom).1 hl
            | inr b =>
              obtain ⟨q1, q2, q3⟩ := c3 b hdom
              rcases hl with hl | hl
              · exact q1 hl
              · rw [q3] at hl; cases hl
        · subst hji
          rw [hDi]
          simp
        · rw [decide_eq_false (by omega)]
          rcases pair i j r rj hji e1 hrj with hb | hcl
          · exact late j oj hoj hb
          · exfalso
            obtain ⟨c1, c2, c3, c4⟩ := clash_slot hcl
            cases l with
            | inl d => exact c2 d hdom hl
            | inr b =>
              obtain ⟨q1, q2⟩ := c4 b hdom
              rcases hl with hl | hl
              · exact q1 hl
              · rw [q2] at hl; cases hl
      have agreeT : ∀ t, t ∈ opSlots ops.toList o → t < n → tmS (foldD (fun j => listed.getD j false) 0 (allW n ops.toList recs) (toS tm hp)) t = nth tm' t := by
        intro t ht htn
        have := agree (.inl t) (by unfold looks; rw [d2]; exact ht)
        have h5 := e5.1 t htn
        unfold tmS at h5 ⊢
        rw [this]
        exact h5
      have agreeH : ∀ b, (b ∈ r.t.touch ∨ ownN (o.dst.getD 0) b = true) → hpS (foldD (fun j => listed.getD j false) 0 (allW n ops.toList recs) (toS tm hp)) b = findE hp' b := by
        intro b hb
        have := agree (.inr b) (by unfold looks; rw [d1]; exact hb)
        have h5 := congrFun e5.2 b
        unfold hpS at h5 ⊢
        rw [this]
        exact h5
      -- and what comes then
      have add : ∀ l, foldD (fun j => (listed.setIfInBounds i true).getD j false) 0 (allW n ops.toList recs) (toS tm hp) l = applyW (foldD (fun j => listed.getD j false) 0 (allW n ops.toList recs) (toS tm hp)) (recW n o r) l := by
        intro l
        rw [← foldD_add (fun j => listed.getD j false) i (allW n ops.toList recs) (recW n o r) (toS tm hp) (l := l) e2 hDi (fun j ws hj hij hw hw' => ?_)]
        · congr 1
          congr 1
          funext j
          by_cases hji : j = i
          · subst hji
            rw [if_pos rfl]
            have hj' : j < listed.size := by omega
            simp [Array.getD_eq_getD_getElem?, hj']
          · rw [if_neg hji, getD_set_ne false (Ne.symm hji)]
        · obtain ⟨oj, rj, hoj, hrj, rfl, f1, f2, f3⟩ := wrote j ws hj
          have g1 := domT o r l d1 d3 hw
          have g2 := domT oj rj l f1 f3 hw'
          rcases pair i j r rj hij e1 hrj with hb | hcl
          · exact late j oj hoj hb
          · exfalso
            obtain ⟨c1, c2, c3, c4⟩ := clash_slot hcl
            cases l with
            | inl d => exact (c1 d g1).2 g2
            | inr b => exact (c3 b g1).2.1 g2
      have next : ∀ a' w', Rel B (fun t => if o.dst = some t then r.x else tmS (foldD (fun j => listed.getD j false) 0 (allW n ops.toList recs) (toS tm hp)) t) (putsF (hpS (foldD (fun j => listed.getD j false) 0 (allW n ops.toList recs) (toS tm hp))) r.us) n a' w' →
          wpAny P .any ops Q fuel (listed.setIfInBounds i true) a' w' := by
        intro a' w' hr'
        refine ih _ a' w' (by rw [Array.size_setIfInBounds]; exact hsz) ?_ ?_ ?_
        · have hlt := countP_lt (p := fun j => !listed.getD j true) (q := fun j => !(listed.setIfInBounds i true).getD j true) (List.range ops.size) (fun j hj => by
            by_cases hji : j = i
            · subst hji; simpa using hun
            · rw [getD_set_ne true (Ne.symm hji)] at hj; exact hj) (List.mem_range.2 hilt) (by simpa using hun) (by
            have hj' : i < listed.size := by omega
            simp [Array.getD_eq_getD_getElem?, hj'])
          omega
        · intro j oj hoj hj e he hb
          refine getD_set_true ?_
          by_cases hji : j = i
          · subst hji
            rw [ho] at hoj
            cases hoj
            exact hpre e he hb
          · rw [getD_set_ne false (Ne.symm hji)] at hj
            exact hclosed j oj hoj hj e he hb
        · refine rel_congr hr' (fun t ht => ?_) (fun b => ?_)
          · rw [← tmS_apply n o r _ t ht]
            unfold tmS
            rw [add]
          · rw [← hpS_apply n o r]
            unfold hpS
            rw [add]
      unfold wpOp
      rw [ho]
      simp only
      have slotG : ∀ j want t, o.guard = some (j, want) → dstOf ops.toList j = some t → t ∈ opSlots ops.toList o := by
        intro j want t hg hj
        unfold opSlots
        rw [hg]
        simp only [List.mem_append]
        right
        rw [hj]
        simp
      have htn : ∀ {t : Nat} {x : SVal}, nth tm' t = x → x ≠ .undef → t < n := by
        intro t x hx hne
        by_cases hlt : t < n
        · exact hlt
        · exact absurd (by rw [← hx]; exact nth_ge tm' t (by omega)) hne
      rcases e4 with ⟨g1, g2, ⟨p, hev, hp1⟩, g4⟩ | ⟨g1, g2, g3, g4, g5⟩
      · have hw : Region.wanted o (yielded ops a.tmps) = true := by
          unfold Region.wanted
          unfold gOn at g2
          split
          · rfl
          · rename_i j want hg
            rw [hg] at g2
            obtain ⟨t, hj, hb⟩ := g2
            have hlt := htn hb (by simp)
            have := (yield_of hrel hj).1 want hlt (by rw [agreeT t (slotG j want t hg hj) hlt]; exact hb)
            rw [this]
            simp
        rw [if_pos hw]
        left
        have hev' : evOp c (evS n (tmS (foldD (fun j => listed.getD j false) 0 (allW n ops.toList recs) (toS tm hp)))) (hpS (foldD (fun j => listed.getD j false) 0 (allW n ops.toList recs) (toS tm hp))) o = some (p, r.x, r.us) := by
          refine evOp_local (fun b e he => findE_name he) hev (fun x hx => ?_) (fun b hb => agreeH b (.inl (by rw [g4]; exact hb))) (fun b hb => agreeH b (.inr hb))
          cases x with
          | tmp t =>
            simp only [evS, evA]
            by_cases ht : t < n
            · rw [if_pos ht]
              refine agreeT t ?_ ht
              unfold opSlots
              rw [List.mem_append]
              left
              exact List.mem_flatMap.2 ⟨.tmp t, hx, by simp [tmpOf]⟩
            · rw [if_neg ht, nth_ge tm' t (by rw [e3]; exact Nat.le_of_not_lt ht)]
          | _ => rfl
        exact rel_step (c := c) hrel (step_of_ev hc hev' hp1) _ Q next
      · have hw : Region.wanted o (yielded ops a.tmps) = false := by
          unfold Region.wanted
          unfold gOff at g2
          split
          · rename_i hg
            rw [hg] at g2
            exact g2.elim
          · rename_i j want hg
            rw [hg] at g2
            obtain ⟨t, hj, hb | hb⟩ := g2
            · have hlt := htn hb (by simp)
              have := (yield_of hrel hj).1 (!want) hlt (by rw [agreeT t (slotG j want t hg hj) hlt]; exact hb)
              rw [this]
              cases want <;> simp
            · have hlt := htn hb (by simp)
              have := (yield_of hrel hj).2 hlt (by rw [agreeT t (slotG j want t hg hj) hlt]; exact hb)
              rw [this]
              simp
        rw [if_neg (by simp [hw])]
        refine next _ _ ?_
        rw [g3, g4]
        exact rel_put hrel o.dst (fun ρ => ⟨#[], rfl, trivial⟩)
end
theorem foldD_none {L V : Type} [DecidableEq L] (D : Nat → Bool) (hD : ∀ j, D j = false) : ∀ (k : Nat) (r : List (List (L × V))) (S : L → V), foldD D k r S = S
  | _, [], S => rfl
  | k, ws :: r, S => by
    simp only [foldD]
    rw [foldD_none D hD (k + 1) r, hD k]
    rfl

theorem RelL.drew {gl : Glob} {B : Base gl} {tm : List SVal} {hp : Hp} {a : Act} {w : World} (h : RelL B tm hp a w) (n : Nat) : RelL B tm hp a { w with drawn := w.drawn + n } := by
  obtain ⟨ρ, own, RO, H, hsz, ht, hd, h1, h2, h3⟩ := h
  exact ⟨ρ, own, RO, H.adv (Adv.drewN _ w n), hsz, ht, hd, h1, h2, h3.trans (AdvD.drewN _ _ w n)⟩

theorem finalTm_length : ∀ (l : List Oper) (recs : List Rec) (tm : List SVal), (finalTm l recs tm).length = tm.length
  | o :: l, r :: rs, tm => by simp only [finalTm]; rw [finalTm_length l rs, putD_length]
  | [], _, tm => by simp [finalTm]
  | _ :: _, [], tm => by simp [finalTm]

theorem evR_sound {P : Program} {c : Ctx} (hc : CtxOK P c) (hm : P.follows .mixedOrders = true) {B : Base c.gl} {id : Nat} {ops : Array Oper} {draw : Bool} {Q : Exit → Act → World → Prop} {K : List SVal → Hp → Prop} {tm : List SVal} {hp : Hp} {a : Act} {w : World}
    (h : evR c ops draw tm hp K) (hr : RelL B tm hp a w) (hq : ∀ tm' hp' a' w', tm'.length = tm.length → K tm' hp' → RelL B tm' hp' a' w' → Q .normal a' w') : (Code.region id ops draw).wp P Q a w := by
  unfold evR at h
  cases draw with
  | false => exact wp_region_list (evL_sound hc ops.toList tm hp a w h hr hq)
  | true =>
    simp only [if_true] at h
    obtain ⟨recs, hrun, hok, hK⟩ := evD_run ops.toList tm hp [] h
    refine wp_region_any hm ?_
    refine region_any hc rfl hrun (by simpa using hok) (fun a' w' hr' => hq _ _ a' w' (finalTm_length _ _ _) hK hr') ops.size _ a _ (by simp) ?_ ?_ ?_
    · refine Nat.le_trans (List.countP_le_length ) (by simp)
    · intro j o ho hj
      exfalso
      have hlt : j < ops.size := (Array.getElem?_eq_some_iff.1 ho).1
      simp [Array.getD_eq_getD_getElem?, hlt] at hj
    · have hnone : foldD (fun j => (Array.replicate ops.size false).getD j false) 0 (allW tm.length ops.toList recs) (toS tm hp) = toS tm hp := foldD_none _ (fun j => by
        by_cases hlt : j < ops.size
        · simp [Array.getD_eq_getD_getElem?, hlt]
        · simp [Array.getD_eq_getD_getElem?, hlt]) 0 _ _
      rw [hnone]
      exact hr.drew 1
end Go.Sx

namespace Go.Sx
inductive Ex where
  | normal
  | exit (id : Nat)
  | ret

abbrev Kont := Ex → List SVal → Hp → Prop
abbrev KN := List SVal → Hp → Prop

def Weak (tm : List SVal) (hp : Hp) (tm' : List SVal) (hp' : Hp) : Prop :=
  tm'.length = tm.length ∧ ∀ (gl : Glob) (B : Base gl), (∀ b u, B.ρ b u ≠ none → b < 100 ∧ u = 0) → ∀ a w, RelL B tm hp a w → RelL B tm' hp' a w

def toExit : Ex → Exit
  | .normal => .normal
  | .exit id => .exit id
  | .ret => .ret

theorem Weak.refl (tm : List SVal) (hp : Hp) : Weak tm hp tm hp := ⟨rfl, fun _ _ _ _ _ h => h⟩
theorem Weak.trans {tm tm' tm'' : List SVal} {hp hp' hp'' : Hp} (h : Weak tm hp tm' hp') (h' : Weak tm' hp' tm'' hp'') : Weak tm hp tm'' hp'' :=
  ⟨h'.1.trans h.1, fun gl B hB a w hr => h'.2 gl B hB a w (h.2 gl B hB a w hr)⟩

end Go.Sx

namespace Go.Sx
mutual
theorem D.only {ρ ρ' : Rho} : ∀ (x : SVal) (v : Value), (∀ r ∈ refs x, ∀ y, ρ r.1 r.2 = some y → ρ' r.1 r.2 = some y) → D ρ x v → D ρ' x v
  | .v _, _, _, h => h
  | .ptr b u off, _, hr, ⟨a, h1, h2⟩ => ⟨a, hr (b, u) (by simp [refs]) _ h1, h2⟩
  | .own b u, v, hr, h => hr (b, u) (by simp [refs]) v h
  | .elt b u s i off, _, hr, ⟨a, n, c, h1, h2⟩ => ⟨a, n, c, hr (b, u) (by simp [refs]) _ h1, h2⟩
  | .agg l, _, hr, ⟨arr, h1, h2⟩ => ⟨arr, h1, DL.only l _ (fun r h => hr r (by simpa [refs] using h)) h2⟩
  | .tup l, _, hr, ⟨arr, h1, h2⟩ => ⟨arr, h1, DL.only l _ (fun r h => hr r (by simpa [refs] using h)) h2⟩
  | .fn g l m, _, hr, ⟨fa, ca, h1, h2, h3⟩ => ⟨fa, ca, h1, DL.only l _ (fun r h => hr r (by simp only [refs, List.mem_append]; exact .inl h)) h2, DL.only m _ (fun r h => hr r (by simp only [refs, List.mem_append]; exact .inr h)) h3⟩
  | .ifc, _, _, h => h
  | .undef, _, _, _ => trivial
theorem DL.only {ρ ρ' : Rho} : ∀ (l : List SVal) (vs : List Value), (∀ r ∈ refsL l, ∀ y, ρ r.1 r.2 = some y → ρ' r.1 r.2 = some y) → DL ρ l vs → DL ρ' l vs
  | [], [], _, _ => trivial
  | x :: l, v :: vs, hr, ⟨h1, h2⟩ => ⟨D.only x v (fun r h => hr r (by simp only [refsL, List.mem_append]; exact .inl h)) h1, DL.only l vs (fun r h => hr r (by simp only [refsL, List.mem_append]; exact .inr h)) h2⟩
  | [], _ :: _, _, h => h.elim
  | _ :: _, [], _, h => h.elim
end
theorem holds.only {ρ ρ' : Rho} {val : Value} {own RO : Nat → Prop} {w : World} : ∀ {o : SObj}, (∀ r ∈ refsO o, ∀ y, ρ r.1 r.2 = some y → ρ' r.1 r.2 = some y) → holds ρ val own RO w o → holds ρ' val own RO w o
  | .cells cs, hr, ⟨g, arr, ty, h1, h2, h3, h4⟩ => ⟨g, arr, ty, h1, h2, DL.only cs _ hr h3, h4⟩
  | .row true et sz xs, _, h => h
  | .row false et sz xs, _, h => h
  | .str s pos, _, h => h

def S (n : Nat) (l : List (Nat × SVal)) : List SVal := l.foldl (fun tm p => setn tm p.1 p.2) (List.replicate n .undef)

theorem weak_freeze (tm : List SVal) (hp : Hp) (b : Nat) {u et sz : Nat} {rw' : Bool} {xs : List (List Cell)} (he : findE hp b = some ⟨b, u, .row rw' et sz xs⟩) : Weak tm hp tm (putE hp ⟨b, u, .row false et sz xs⟩) := by
  refine ⟨rfl, fun gl B hB a w hr => ?_⟩
  obtain ⟨ρ, own, RO, H, hsz, ht, hd, hle, hro, hadv⟩ := hr
  obtain ⟨RO', h1, h2, H'⟩ := H.freeze b u et sz rw' xs he
  have hf : findE (putE hp ⟨b, u, .row false et sz xs⟩) = fun b' => if b = b' then some ⟨b, u, .row false et sz xs⟩ else findE hp b' := by
    funext b'
    exact findE_put hp _ b'
  exact ⟨ρ, _, RO', by rw [hf]; exact H', hsz, ht, hd, hle, fun k hk => h1 k (hro k hk), hadv⟩

theorem holds_nil (ρ : Rho) (RO : Nat → Prop) (w : World) (et sz : Nat) : holds ρ (.slice none 0 0) (fun _ => False) RO w (.row true et sz []) :=
  ⟨[], ⟨by simp, .inl ⟨rfl, rfl⟩⟩, trivial, fun k => by simp [Value.ownBlock], by simp⟩

theorem weak_nil (tm : List SVal) (hp : Hp) (t b et sz : Nat) (hn : nth tm t = .v (.slice none 0 0)) (hb : findE hp b = none) : Weak tm hp (setn tm t (.own b 0)) (putE hp ⟨b, 0, .row true et sz []⟩) := by
  refine ⟨setn_length _ _ _, fun gl B hB a w hr => ?_⟩
  obtain ⟨ρ, own, RO, H, hsz, ht, hd, hle, hro, hadv⟩ := hr
  obtain ⟨H', hle'⟩ := H.share hb (.row true et sz []) (.slice none 0 0) (holds_nil _ _ _ et sz)
  have hf : findE (putE hp ⟨b, 0, .row true et sz []⟩) = fun b' => if b = b' then some ⟨b, 0, .row true et sz []⟩ else findE hp b' := by
    funext b'
    exact findE_put hp _ b'
  refine ⟨_, _, RO, by rw [hf]; exact H', by rw [hsz, setn_length], fun t' ht' => ?_, hd, Rho.le_trans hle hle', hro, hadv⟩
  rw [setn_length] at ht'
  rw [nth_setn]
  split
  · rename_i h
    obtain ⟨rfl, h⟩ := h
    have := ht t h
    rw [hn] at this
    simp only [D] at this ⊢
    rw [this]
    simp [Rho.set]
  · exact (ht t' ht').mono hle'

theorem weak_nil_cell (tm : List SVal) (hp : Hp) (q i b et sz : Nat) {u : Nat} {cs : List SVal} (hq : findE hp q = some ⟨q, u, .cells cs⟩) (hn : nth cs i = .v (.slice none 0 0)) (hb : findE hp b = none) :
    Weak tm hp tm (putE (putE hp ⟨b, 0, .row true et sz []⟩) ⟨q, u, .cells (setn cs i (.own b 0))⟩) := by
  refine ⟨rfl, fun gl B hB a w hr => ?_⟩
  obtain ⟨ρ, own, RO, H, hsz, ht, hd, hle, hro, hadv⟩ := hr
  obtain ⟨H', hle'⟩ := H.share hb (.row true et sz []) (.slice none 0 0) (holds_nil _ _ _ et sz)
  have hqb : ¬ b = q := by intro h; subst h; rw [hq] at hb; cases hb
  have hf : findE (putE (putE hp ⟨b, 0, .row true et sz []⟩) ⟨q, u, .cells (setn cs i (.own b 0))⟩) = fun b' => if q = b' then some ⟨q, u, .cells (setn cs i (.own b 0))⟩ else if b = b' then some ⟨b, 0, .row true et sz []⟩ else findE hp b' := by
    funext b'
    rw [findE_put, findE_put]
  have hent := H'.ent q ⟨q, u, .cells cs⟩ (by simp [hqb, hq])
  refine ⟨_, (fun b' => if b' = b then fun _ => False else own b'), RO, ?_, hsz, fun t' ht' => (ht t' ht').mono hle', hd, Rho.le_trans hle hle', hro, hadv⟩
  rw [hf]
  refine ⟨?_, ?_, ?_, H'.one, H'.disj, H'.ro, H'.rofr, H'.fr⟩
  · intro b' e he
    by_cases hb' : q = b'
    · subst hb'
      simp only [if_true, Option.some.injEq] at he
      subst he
      obtain ⟨_, x, hx, hh⟩ := hent
      refine ⟨rfl, x, hx, ?_⟩
      obtain ⟨g, arr, ty, e1, e2, e3, e4⟩ := hh
      refine ⟨g, arr, ty, e1, e2, ?_, e4⟩
      have key : ∀ (cs : List SVal) (i : Nat) (vs : List Value) (ρ : Rho), nth cs i = .v (.slice none 0 0) → ρ b 0 = some (.slice none 0 0) → DL ρ cs vs → DL ρ (setn cs i (.own b 0)) vs := by
        intro cs
        induction cs with
        | nil => intro i vs ρ hn; simp [nth] at hn
        | cons x l ih =>
          intro i vs ρ hn hb hd
          match vs, hd with
          | v :: vs, hd =>
            cases i with
            | zero =>
              simp only [nth] at hn
              subst hn
              have h1 : v = .slice none 0 0 := hd.1
              exact ⟨by simp only [D]; rw [h1]; exact hb, hd.2⟩
            | succ i => exact ⟨hd.1, ih i vs ρ hn hb hd.2⟩
      exact key cs i arr.toList _ hn (by simp [Rho.set]) e3
    · simp only [if_neg hb'] at he
      exact H'.ent b' e he
  · intro b' hb' k
    refine H'.non b' ?_ k
    by_cases hq' : q = b'
    · simp [hq'] at hb'
    · simpa [hq'] using hb'
  · intro b' u' hne
    have := H'.dom b' u' hne
    unfold nextOf at this ⊢
    by_cases hq' : q = b'
    · subst hq'
      simp only [if_neg hqb, hq] at this
      simpa using this
    · simpa [hq'] using this

end Go.Sx

namespace Go.Sx
def loadP (i : TI) (hp : HpF) : SVal → Option (Prop × SVal)
  | .ptr b u off => match objOf hp b u with
    | some (.cells cs) => match pack i (cs.drop off) with
      | some x => some (off + i.size ≤ cs.length, x)
      | none => none
    | _ => none
  | _ => none

def resOf (c : Ctx) (tm : List SVal) (hp : HpF) : List ResultVar → Option (Prop × List SVal)
  | [] => some (True, [])
  | .tmp t :: r => match resOf c tm hp r with
    | some (p, vs) => some (t < tm.length ∧ p, nth tm t :: vs)
    | none => none
  | .cell a t :: r => match c.ty t, resOf c tm hp r with
    | some i, some (p, vs) => match loadP i hp (nth tm a) with
      | some (q, x) => some (q ∧ p, x :: vs)
      | none => none
    | _, _ => none

def resTup : List SVal → SVal
  | [x] => x
  | l => .tup l

def exitMap (acc : List Ent) (m : Nat) (b u : Nat) : Nat × Nat := (indexE acc b, if indexE acc b < m then min u 1 else 0)

def exitEnts (acc : List Ent) (m : Nat) : Nat → List Ent → List Ent
  | _, [] => []
  | j, e :: r => ⟨j, (if j < m then min e.ver 1 else 0), mapRO (exitMap acc m) e.obj⟩ :: exitEnts acc m (j + 1) r

def paramRefs (hp : HpF) : Nat → List (Nat × Nat)
  | 0 => []
  | m + 1 => paramRefs hp m ++ [(m, match hp m with
    | some e => e.ver
    | none => 0)]

def firstAre : Nat → Nat → List Ent → Bool
  | 0, _, _ => true
  | m + 1, j, e :: r => e.name == j && firstAre m (j + 1) r
  | _ + 1, _, [] => false

def exitK (c : Ctx) (rs : List ResultVar) (m : Nat) (r : SVal) (final : Hp) : Kont
  | .exit _, _, _ => False
  | _, tm, hp => match resOf c tm (findE hp) rs with
    | some (p, vs) => match reach (findE hp) 60 (paramRefs (findE hp) m ++ refsL vs) [] with
      | some acc => p ∧ firstAre m 0 acc = true ∧ resTup (mapRL (exitMap acc m) vs) = r ∧ exitEnts acc m 0 acc = final
      | none => False
    | none => False

section
variable {P : Program} {c : Ctx}
theorem first_at : ∀ (m j : Nat) (l : List Ent), firstAre m j l = true → ∀ b, b < m → ∃ e, nthE l b = some e ∧ e.name = j + b
  | 0, _, _, _, b, hb => by omega
  | m + 1, j, e :: r, h, b, hb => by
    simp only [firstAre, Bool.and_eq_true, beq_iff_eq] at h
    cases b with
    | zero => exact ⟨e, rfl, h.1⟩
    | succ b =>
      obtain ⟨e', h1, h2⟩ := first_at m (j + 1) r h.2 b (by omega)
      exact ⟨e', h1, by omega⟩
  | _ + 1, _, [], h, _, _ => by simp [firstAre] at h

theorem findE_exit (acc : List Ent) (m : Nat) : ∀ (l : List Ent) (j b : Nat), findE (exitEnts acc m j l) b = if b < j then none else (nthE l (b - j)).map fun e => ⟨b, (if b < m then min e.ver 1 else 0), mapRO (exitMap acc m) e.obj⟩
  | [], j, b => by simp [exitEnts, findE, nthE]
  | e :: l, j, b => by
    simp only [exitEnts, findE]
    by_cases h : j = b
    · subst h; simp [nthE]
    · rw [if_neg h, findE_exit acc m l (j + 1) b]
      by_cases hb : b < j
      · simp [hb, show b < j + 1 by omega]
      · rw [if_neg hb, if_neg (by omega)]
        obtain ⟨k, rfl⟩ : ∃ k, b = j + 1 + k := ⟨b - (j + 1), by omega⟩
        rw [show j + 1 + k - j = k + 1 by omega, show j + 1 + k - (j + 1) = k by omega]
        rfl

def rhoExit (ρ : Rho) (acc : List Ent) (m : Nat) : Rho := fun j u => match nthE acc j with
  | some e => if u = (if j < m then min e.ver 1 else 0) then ρ e.name e.ver else if j < m ∧ u = 0 then ρ e.name 0 else none
  | none => none
def ownExit (own : Foot) (acc : List Ent) : Foot := fun j => match nthE acc j with
  | some e => own e.name
  | none => fun _ => False

def resF (tmps : Array Value) : ResultVar → Sem Value
  | .tmp t => pure (tmps.getD t undef)
  | .cell b t => do loadVar t (← asAddr (tmps.getD b undef))

theorem res_run (hc : ∀ t i, c.ty t = some i → tiOf P t = some i) {Fr RO : Nat → Prop} {ρ : Rho} {own : Foot} {hp : HpF} {w : World} {tm : List SVal} {a : Act} (H : HRel Fr RO ρ own hp w) (hsz : a.tmps.size = tm.length)
    (ht : ∀ t, t < tm.length → D ρ (nth tm t) (a.tmps.getD t undef)) : ∀ (rs : List ResultVar) (p : Prop) (vs : List SVal), resOf c tm hp rs = some (p, vs) → p →
    ∃ vals : List Value, (rs.mapM (m := Sem) (resF a.tmps)).run P w = .ok vals w ∧ DL ρ vs vals
  | [], p, vs, h, hp' => by
    simp only [resOf, Option.some.injEq, Prod.mk.injEq] at h
    obtain ⟨rfl, rfl⟩ := h
    exact ⟨[], rfl, trivial⟩
  | .tmp t :: rs, p, vs, h, hp' => by
    simp only [resOf] at h
    split at h
    · rename_i p' vs' he
      simp only [Option.some.injEq, Prod.mk.injEq] at h
      obtain ⟨rfl, rfl⟩ := h
      obtain ⟨vals, h1, h2⟩ := res_run hc H hsz ht rs p' vs' he hp'.2
      refine ⟨a.tmps.getD t undef :: vals, ?_, ht t hp'.1, h2⟩
      rw [List.mapM_cons, Sem.run_bind]
      simp only [resF, Sem.run_pure, Result.andThen_ok]
      rw [Sem.run_bind, show (List.mapM (m := Sem) (resF a.tmps) rs).run P w = _ from h1]
      rfl
    · cases h
  | .cell b t :: rs, p, vs, h, hp' => by
    simp only [resOf] at h
    split at h
    · rename_i i p' vs' hi he
      split at h
      · rename_i q x hl
        simp only [Option.some.injEq, Prod.mk.injEq] at h
        obtain ⟨rfl, rfl⟩ := h
        obtain ⟨vals, h1, h2⟩ := res_run hc H hsz ht rs p' vs' he hp'.2
        obtain ⟨F⟩ := tyFacts (hc _ _ hi)
        unfold loadP at hl
        split at hl
        · rename_i b' u off hb
          split at hl
          · rename_i cs hcs
            split at hl
            · rename_i y hy
              simp only [Option.some.injEq, Prod.mk.injEq] at hl
              obtain ⟨rfl, rfl⟩ := hl
              have hlt : b < tm.length := by
                by_cases hlt : b < tm.length
                · exact hlt
                · rw [nth_ge tm b (Nat.le_of_not_lt hlt)] at hb; cases hb
              have hx := ht b hlt
              rw [hb] at hx
              obtain ⟨ad, hρ, hax⟩ := hx
              obtain ⟨val, g1, g, arr, ty, rfl, hg, hd, _⟩ := H.obj hcs
              rw [hρ] at g1
              cases g1
              have hlen := hd.length
              have hcell : ∀ j v, (arr.toList.drop off)[j]? = some v → w.cell? (((⟨g, 0, none⟩ : Addr).add off).add j) = some v := by
                intro j v hj
                rw [add_add, add_lit, Nat.zero_add]
                rw [List.getElem?_drop] at hj
                simp only [World.cell?, hg]
                simpa using hj
              have hp1 := hp'.1
              obtain ⟨v, hv, hdv⟩ := load_run F ((⟨g, 0, none⟩ : Addr).add off) (cs.drop off) (arr.toList.drop off) (hd.drop off) (by rw [List.length_drop, ← hlen]; omega) (fun j v _ hj => hcell j v hj) hy (by
                intro hne
                cases hq : arr.toList.drop off with
                | nil => exact absurd hq hne
                | cons z zs =>
                  have := hcell 0 z (by rw [hq]; rfl)
                  rw [add_add, Nat.add_zero] at this
                  simpa using this)
              refine ⟨v :: vals, ?_, hdv, h2⟩
              unfold Instr.loadAt Instr.sureAddr at hv
              rw [Sem.run_bind] at hv
              simp only [Sem.run_pure, Result.andThen_ok] at hv
              rw [List.mapM_cons, Sem.run_bind]
              have hb1 : (resF a.tmps (.cell b t)).run P w = .ok v w := by
                simp only [resF, hax, asAddr]
                rw [Sem.run_bind]
                simp only [Sem.run_pure, Result.andThen_ok]
                exact hv
              rw [hb1, Result.andThen_ok, Sem.run_bind, h1]
              rfl
            · cases hl
          · cases hl
        · cases hl
      · cases h
    · cases h

theorem results_run (hc : ∀ t i, c.ty t = some i → tiOf P t = some i) {fn : Func} {Fr RO : Nat → Prop} {ρ : Rho} {own : Foot} {hp : HpF} {w : World} {tm : List SVal} {a : Act} (H : HRel Fr RO ρ own hp w) (hsz : a.tmps.size = tm.length)
    (ht : ∀ t, t < tm.length → D ρ (nth tm t) (a.tmps.getD t undef)) {p : Prop} {vs : List SVal} (h : resOf c tm hp fn.results.toList = some (p, vs)) (hp' : p) :
    ∃ v, (results fn a.tmps).run P w = .ok v w ∧ D ρ (resTup vs) v := by
  obtain ⟨vals, h1, h2⟩ := res_run hc H hsz ht fn.results.toList p vs h hp'
  refine ⟨if h : vals.toArray.size = 1 then vals.toArray[0] else .tuple vals.toArray, ?_, ?_⟩
  · unfold results
    rw [Sem.run_bind, Array.mapM_eq_mapM_toList]
    rw [Sem.run_map]
    exact (congrArg (fun r => ((Result.andThen r fun a w' => Result.ok a.toArray w').andThen fun a w' => Sem.run P (pure (if h : a.size = 1 then a[0] else Value.tuple a)) w')) h1).trans rfl
  · match vs, vals, h2 with
    | [], [], h2 => exact ⟨#[], rfl, h2⟩
    | [x], [v], h2 => exact h2.1
    | x :: y :: vs, v :: v' :: vals, h2 => exact ⟨_, rfl, h2⟩

theorem exit_sound (hc : ∀ t i, c.ty t = some i → tiOf P t = some i) {fn : Func} {gl : Glob} {B : Base gl} {ents : List Ent} {r : SVal} {final : Hp} {tm : List SVal} {hp : Hp} {a : Act} {w : World} {e : Ex}
    (hρ0 : ∀ b u, B.ρ b u ≠ none → u = 0 ∧ b < ents.length) (hown0 : ∀ b, b < ents.length → B.ρ b 0 ≠ none)
    (h : exitK c fn.results.toList ents.length r final e tm hp) (hr : RelL B tm hp a w) :
    a.defers = [] ∧ (∀ i, e ≠ .exit i) ∧ ∃ v ρ' own' RO', (results fn a.tmps).run P w = .ok v w ∧ HRel B.Fr RO' ρ' own' (findE final) w ∧ D ρ' r v ∧
      (∀ b, b < ents.length → (∃ e, findE final b = some e) ∧ ∀ x, ρ' b 0 = some x → B.ρ b 0 = some x) ∧ (∀ k, B.RO k → RO' k) ∧ AdvD (Str gl) (fun k => B.RO k ∨ B.Fr k) B.w w := by
  obtain ⟨ρ, own, RO, H, hsz, ht, hd, hle, hro, hadv⟩ := hr
  have main : ∃ p vs acc, resOf c tm (findE hp) fn.results.toList = some (p, vs) ∧ reach (findE hp) 60 (paramRefs (findE hp) ents.length ++ refsL vs) [] = some acc ∧ p ∧ firstAre ents.length 0 acc = true ∧
      resTup (mapRL (exitMap acc ents.length) vs) = r ∧ exitEnts acc ents.length 0 acc = final ∧ ∀ i, e ≠ .exit i := by
    unfold exitK at h
    split at h
    · exact h.elim
    · rename_i hne
      split at h
      · rename_i p vs h1
        split at h
        · rename_i acc h2
          exact ⟨p, vs, acc, h1, h2, h.1, h.2.1, h.2.2.1, h.2.2.2, fun i hi => hne i (by rw [hi])⟩
        · exact h.elim
      · exact h.elim
  obtain ⟨p, vs, acc, h1, h2, hp', h3, rfl, rfl, hne⟩ := main
  obtain ⟨v, hv, hdv⟩ := results_run hc H hsz ht h1 hp'
  obtain ⟨_, q2, q3, q4⟩ := reach_spec (fun b e he => (H.ent b e he).1) 60 _ [] acc h2 (fun j e h => by simp [nthE] at h)
  have acc_hp : ∀ b e, findE acc b = some e → findE hp b = some e ∧ ∀ r ∈ refsO e.obj, InE acc r := by
    intro b e hb
    rcases q3 b e hb with h | h
    · simp [findE] at h
    · exact h
  have at_hp : ∀ j e, nthE acc j = some e → findE hp e.name = some e ∧ (∀ r ∈ refsO e.obj, InE acc r) ∧ indexE acc e.name = j := by
    intro j e hj
    obtain ⟨g1, g2⟩ := q4 j e hj
    obtain ⟨g3, g4⟩ := acc_hp _ _ g2
    exact ⟨g3, g4, g1⟩
  -- a reference that is reached means the same
  have ren : ∀ r, InE acc r → ∀ y, ρ r.1 r.2 = some y → rhoExit ρ acc ents.length (exitMap acc ents.length r.1 r.2).1 (exitMap acc ents.length r.1 r.2).2 = some y := by
    intro r ⟨e, he, hv⟩ y hy
    have hn := nthE_index he
    have hnm := findE_name he
    unfold rhoExit exitMap
    simp only [hn]
    rw [← hv, if_pos rfl, hnm]
    rw [hv]; exact hy
  refine ⟨hd, hne, v, rhoExit ρ acc ents.length, ownExit own acc, RO, hv, ?_, ?_, ?_, hro, hadv⟩
  · refine ⟨?_, ?_, ?_, ?_, ?_, ?_, H.rofr, H.fr⟩
    · intro b e he
      rw [findE_exit] at he
      simp only [Nat.not_lt_zero, if_false, Nat.sub_zero] at he
      cases hq : nthE acc b with
      | none => rw [hq] at he; simp at he
      | some e0 =>
        rw [hq] at he
        simp only [Option.map_some, Option.some.injEq] at he
        subst he
        obtain ⟨g1, g2, g3⟩ := at_hp b e0 hq
        obtain ⟨_, x, hx, hh⟩ := H.ent _ _ g1
        refine ⟨rfl, x, ?_, ?_⟩
        · unfold rhoExit
          simp only [hq, if_true]
          exact hx
        · unfold ownExit
          simp only [hq]
          exact hh.rename (fun r hr => ren r (g2 r hr))
    · intro b hb k
      rw [findE_exit] at hb
      simp only [Nat.not_lt_zero, if_false, Nat.sub_zero, Option.map_eq_none_iff] at hb
      unfold ownExit
      simp [hb]
    · intro b u hne'
      unfold rhoExit at hne'
      unfold nextOf
      rw [findE_exit]
      simp only [Nat.not_lt_zero, if_false, Nat.sub_zero]
      cases hq : nthE acc b with
      | none => rw [hq] at hne'; simp at hne'
      | some e0 =>
        rw [hq] at hne'
        simp only [Option.map_some]
        simp only at hne'
        by_cases hu : u = (if b < ents.length then min e0.ver 1 else 0)
        · rw [hu]; exact Nat.lt_succ_self _
        · rw [if_neg hu] at hne'
          by_cases hu2 : b < ents.length ∧ u = 0
          · rw [hu2.2]; exact Nat.succ_pos _
          · rw [if_neg hu2] at hne'; exact absurd rfl hne'
    · intro b u x hx
      unfold rhoExit at hx
      cases hq : nthE acc b with
      | none => rw [hq] at hx; cases hx
      | some e0 =>
        rw [hq] at hx
        simp only at hx
        by_cases hu : u = (if b < ents.length then min e0.ver 1 else 0)
        · rw [if_pos hu] at hx; exact H.one _ _ _ hx
        · rw [if_neg hu] at hx
          by_cases hu2 : b < ents.length ∧ u = 0
          · rw [if_pos hu2] at hx; exact H.one _ _ _ hx
          · rw [if_neg hu2] at hx; cases hx
    · intro b b' k hb hb'
      unfold ownExit at hb hb'
      cases hq : nthE acc b with
      | none => rw [hq] at hb; exact hb.elim
      | some e0 =>
        cases hq' : nthE acc b' with
        | none => rw [hq'] at hb'; exact hb'.elim
        | some e1 =>
          rw [hq] at hb
          rw [hq'] at hb'
          have := H.disj _ _ _ hb hb'
          rw [← (at_hp b e0 hq).2.2, ← (at_hp b' e1 hq').2.2, this]
    · intro b k hb
      unfold ownExit at hb
      cases hq : nthE acc b with
      | none => rw [hq] at hb; exact hb.elim
      | some e0 => rw [hq] at hb; exact H.ro _ _ hb
  · have key : D (rhoExit ρ acc ents.length) (mapR (exitMap acc ents.length) (resTup vs)) v := D.rename _ _ (fun r hr => ren r (q2 r (by
      rw [List.mem_append]
      right
      match vs, hr with
      | [], hr => simpa [resTup, refs, refsL] using hr
      | [x], hr => simpa [resTup, refs, refsL] using hr
      | x :: y :: l, hr => simpa [resTup, refs] using hr))) hdv
    match vs, key with
    | [], key => exact key
    | [x], key => exact key
    | x :: y :: l, key => exact key
  · intro b hb
    obtain ⟨e0, g1, g2⟩ := first_at ents.length 0 acc h3 b hb
    rw [Nat.zero_add] at g2
    refine ⟨?_, fun x hx => ?_⟩
    · rw [findE_exit]
      simp only [Nat.not_lt_zero, if_false, Nat.sub_zero, g1, Option.map_some]
      exact ⟨_, rfl⟩
    · obtain ⟨y, hy⟩ : ∃ y, B.ρ b 0 = some y := by
        cases hq : B.ρ b 0 with
        | none => exact absurd hq (hown0 b hb)
        | some y => exact ⟨y, rfl⟩
      have hle' := hle _ _ _ hy
      have : ρ b 0 = some x := by
        unfold rhoExit at hx
        rw [g1] at hx
        simp only [if_pos hb, g2] at hx
        split at hx
        · rename_i hu
          have : e0.ver = 0 := by omega
          rw [this] at hx; exact hx
        · rename_i hu
          rw [if_pos ⟨hb, trivial⟩] at hx
          exact hx
      rw [hle'] at this
      cases this
      exact hy

theorem DL.undefs {ρ : Rho} {args : List SVal} {vals : List Value} (h : DL ρ args vals) (n : Nat) : DL ρ (args ++ List.replicate n .undef) (vals ++ List.replicate n undef) := by
  refine h.append ?_
  induction n with
  | zero => exact trivial
  | succ n ih => exact ⟨trivial, ih⟩

end
end Go.Sx

namespace Go.Sx
def iter {V X : Type} (b : V → Option (V ⊕ X)) : Nat → V → Option X
  | 0, _ => none
  | n + 1, v => match b v with
    | some (.inl v') => iter b n v'
    | some (.inr x) => some x
    | none => none
open Classical in
noncomputable def runLoop {V X : Type} (b : V → Option (V ⊕ X)) (v : V) : Option X :=
  if h : ∃ n x, iter b n v = some x then some (Classical.choose (Classical.choose_spec h)) else none

theorem iter_mono {V X : Type} {b : V → Option (V ⊕ X)} : ∀ (n : Nat) (v : V) (x : X), iter b n v = some x → ∀ m, n ≤ m → iter b m v = some x
  | 0, _, _, h, _, _ => by simp [iter] at h
  | n + 1, v, x, h, 0, hm => by omega
  | n + 1, v, x, h, m + 1, hm => by
    simp only [iter] at h ⊢
    split at h
    · rename_i v' hv; exact iter_mono n v' x h m (by omega)
    · exact h
    · cases h
theorem runLoop_of {V X : Type} {b : V → Option (V ⊕ X)} {v : V} {x : X} {n : Nat} (h : iter b n v = some x) : runLoop b v = some x := by
  have he : ∃ n x, iter b n v = some x := ⟨n, x, h⟩
  unfold runLoop
  rw [dif_pos he]
  have h1 := Classical.choose_spec (Classical.choose_spec he)
  have a1 := iter_mono _ _ _ h1 (max n (Classical.choose he)) (Nat.le_max_right _ _)
  have a2 := iter_mono _ _ _ h (max n (Classical.choose he)) (Nat.le_max_left _ _)
  rw [a1] at a2
  exact a2
theorem iter_of {V X : Type} {b : V → Option (V ⊕ X)} {v : V} {x : X} (h : runLoop b v = some x) : ∃ n, iter b n v = some x := by
  unfold runLoop at h
  split at h
  · rename_i he
    refine ⟨Classical.choose he, ?_⟩
    rw [Classical.choose_spec (Classical.choose_spec he)]
    exact h
  · cases h
theorem runLoop_eq {V X : Type} (b : V → Option (V ⊕ X)) (v : V) : runLoop b v = (b v).bind fun
    | .inl v' => runLoop b v'
    | .inr x => some x := by
  cases hb : b v with
  | none =>
    cases hr : runLoop b v with
    | none => rfl
    | some x =>
      obtain ⟨n, hn⟩ := iter_of hr
      cases n with
      | zero => simp [iter] at hn
      | succ n => simp [iter, hb] at hn
  | some s =>
    cases s with
    | inr x => exact runLoop_of (n := 1) (by simp [iter, hb])
    | inl v' =>
      simp only [Option.bind_some]
      cases hr : runLoop b v' with
      | some x =>
        obtain ⟨n, hn⟩ := iter_of hr
        exact runLoop_of (n := n + 1) (by simp [iter, hb, hn])
      | none =>
        cases hq : runLoop b v with
        | none => rfl
        | some x =>
          obtain ⟨n, hn⟩ := iter_of hq
          cases n with
          | zero => simp [iter] at hn
          | succ n =>
            simp only [iter, hb] at hn
            rw [runLoop_of hn] at hr
            cases hr
theorem runLoop_step {V X : Type} {b : V → Option (V ⊕ X)} {v v' : V} (h : b v = some (.inl v')) : runLoop b v = runLoop b v' := by rw [runLoop_eq, h]; rfl
theorem runLoop_done {V X : Type} {b : V → Option (V ⊕ X)} {v : V} {x : X} (h : b v = some (.inr x)) : runLoop b v = some x := by rw [runLoop_eq, h]; rfl
theorem runLoop_ind {V X ι : Type} {b : V → Option (V ⊕ X)} (I : ι → Prop) (st : ι → V) (μ : ι → Nat) (Q : X → Prop)
    (h : ∀ i, I i → (∃ j, b (st i) = some (.inl (st j)) ∧ I j ∧ μ j < μ i) ∨ ∃ x, b (st i) = some (.inr x) ∧ Q x) (i : ι) (hi : I i) : ∃ x, runLoop b (st i) = some x ∧ Q x := by
  generalize hm : μ i = m
  induction m using Nat.strongRecOn generalizing i with
  | ind m ih =>
    rcases h i hi with ⟨j, h1, h2, h3⟩ | ⟨x, h1, h2⟩
    · obtain ⟨x, e1, e2⟩ := ih (μ j) (by omega) j h2 rfl
      exact ⟨x, by rw [runLoop_step h1]; exact e1, e2⟩
    · exact ⟨x, runLoop_done h1, h2⟩
end Go.Sx

namespace Go.Sx
inductive BK where
  | int (k : IntKind)
  | bool
  | str
deriving DecidableEq
inductive CK where
  | b (x : BK)
  | s (et : Nat) (xs : List BK)
deriving DecidableEq

def Tup {α : Type} (τ : α → Type) : List α → Type
  | [] => Unit
  | [k] => τ k
  | k :: k2 :: r => τ k × Tup τ (k2 :: r)
def Tup.head {α : Type} {τ : α → Type} : (k : α) → (l : List α) → Tup τ (k :: l) → τ k
  | _, [], x => x
  | _, _ :: _, x => x.1
def Tup.tail {α : Type} {τ : α → Type} : (k : α) → (l : List α) → Tup τ (k :: l) → Tup τ l
  | _, [], _ => ()
  | _, _ :: _, x => x.2
def Tup.cons {α : Type} {τ : α → Type} : (k : α) → (l : List α) → τ k → Tup τ l → Tup τ (k :: l)
  | _, [], x, _ => x
  | _, _ :: _, x, y => (x, y)
def Tup.toL {α : Type} {τ : α → Type} : (l : List α) → Tup τ l → List (Sigma τ)
  | [], _ => []
  | k :: l, x => ⟨k, Tup.head k l x⟩ :: Tup.toL l (Tup.tail k l x)
def Tup.ofL {α : Type} [DecidableEq α] {τ : α → Type} : (l : List α) → List (Sigma τ) → Option (Tup τ l)
  | [], [] => some ()
  | k :: l, ⟨k', x⟩ :: r => if h : k' = k then (match Tup.ofL l r with
    | some y => some (Tup.cons k l (h ▸ x) y)
    | none => none) else none
  | _, _ => none

theorem Tup.head_cons {α : Type} {τ : α → Type} (k : α) (l : List α) (x : τ k) (y : Tup τ l) : Tup.head k l (Tup.cons k l x y) = x := by cases l <;> rfl
theorem Tup.tail_cons {α : Type} {τ : α → Type} (k : α) (l : List α) (x : τ k) (y : Tup τ l) : Tup.tail k l (Tup.cons k l x y) = y := by cases l <;> rfl
theorem Tup.cons_eta {α : Type} {τ : α → Type} (k : α) (l : List α) (x : Tup τ (k :: l)) : Tup.cons k l (Tup.head k l x) (Tup.tail k l x) = x := by cases l <;> rfl
theorem Tup.toL_ofL {α : Type} [DecidableEq α] {τ : α → Type} : ∀ (l : List α) (s : List (Sigma τ)) (x : Tup τ l), Tup.ofL l s = some x → Tup.toL l x = s
  | [], [], _, _ => rfl
  | [], _ :: _, _, h => by simp [Tup.ofL] at h
  | _ :: _, [], _, h => by simp [Tup.ofL] at h
  | k :: l, ⟨k', y⟩ :: r, x, h => by
    simp only [Tup.ofL] at h
    split at h
    · rename_i hk
      subst hk
      split at h
      · rename_i z hz
        cases h
        simp only [Tup.toL, Tup.head_cons, Tup.tail_cons]
        rw [Tup.toL_ofL l r z hz]
      · cases h
    · cases h
theorem Tup.toL_length {α : Type} {τ : α → Type} : ∀ (l : List α) (x : Tup τ l), (Tup.toL l x).length = l.length
  | [], _ => rfl
  | k :: l, x => by simp only [Tup.toL, List.length_cons, Tup.toL_length l]

def BK.T : BK → Type
  | .int _ => Int
  | .bool => Bool
  | .str => ByteArray
def BK.enc : (k : BK) → k.T → Value
  | .int k, x => .int k x
  | .bool, x => .bool x
  | .str, x => .string x
def BK.dec : (k : BK) → Value → Option k.T
  | .int k, .int k' x => if k' = k then some x else none
  | .bool, .bool x => some x
  | .str, .string x => some x
  | _, _ => none
def BK.zero : (k : BK) → k.T
  | .int _ => (0 : Int)
  | .bool => false
  | .str => ByteArray.empty

abbrev rowB (l : List BK) : Type := Tup BK.T l
def CK.T : CK → Type
  | .b x => x.T
  | .s _ xs => List (rowB xs)
abbrev rowT (l : List CK) : Type := Tup CK.T l

def encB (l : List BK) (x : rowB l) : List Value := (Tup.toL l x).map fun s => s.1.enc s.2
def CK.enc : (k : CK) → k.T → Cell
  | .b x, t => .v (x.enc t)
  | .s et xs, t => .s et xs.length (t.map (encB xs))
def encT (l : List CK) (x : rowT l) : List Cell := (Tup.toL l x).map fun s => s.1.enc s.2
def CK.zero : (k : CK) → k.T
  | .b x => x.zero
  | .s _ _ => []
def zeroT : (l : List CK) → rowT l
  | [] => ()
  | k :: l => Tup.cons k l k.zero (zeroT l)
def liftB (l : List BK) : List CK := l.map .b

theorem lift_tup : ∀ (l : List BK), rowT (liftB l) = rowB l
  | [] => rfl
  | [_] => rfl
  | k :: k2 :: r => by
    have h := lift_tup (k2 :: r)
    exact congrArg (fun t => BK.T k × t) h
def upB (l : List BK) (x : List (rowB l)) : List (rowT (liftB l)) := cast (congrArg List (lift_tup l).symm) x
def downB (l : List BK) (x : List (rowT (liftB l))) : List (rowB l) := cast (congrArg List (lift_tup l)) x

inductive TObj where
  | cells (cs : List SVal)
  | row (rw : Bool) (et : Nat) (ks : List CK) (xs : List (rowT ks))
  | str (s : ByteArray) (pos : Nat)
structure TEnt where
  name : Nat
  ver : Nat
  obj : TObj
abbrev THp := List TEnt

def eraO : TObj → SObj
  | .cells cs => .cells cs
  | .row rw et ks xs => .row rw et ks.length (xs.map (encT ks))
  | .str s p => .str s p
def eraE (e : TEnt) : Ent := ⟨e.name, e.ver, eraO e.obj⟩
def eraH (l : THp) : Hp := l.map eraE

def findT : THp → Nat → Option TEnt
  | [], _ => none
  | e :: r, b => if e.name = b then some e else findT r b
def putT : THp → TEnt → THp
  | [], x => [x]
  | e :: r, x => if x.name = e.name then x :: r else if x.name < e.name then x :: e :: r else e :: putT r x
def putsT : THp → List TEnt → THp
  | hp, [] => hp
  | hp, x :: r => putsT (putT hp x) r
def objT (hp : THp) (b u : Nat) : Option TObj := match findT hp b with
  | some e => if e.ver = u then some e.obj else none
  | none => none

theorem find_era : ∀ (hp : THp) (b : Nat), findE (eraH hp) b = (findT hp b).map eraE
  | [], _ => rfl
  | e :: r, b => by
    simp only [eraH, List.map_cons, findE, findT, eraE]
    split
    · rfl
    · exact find_era r b
theorem put_era : ∀ (hp : THp) (x : TEnt), eraH (putT hp x) = putE (eraH hp) (eraE x)
  | [], x => rfl
  | e :: r, x => by
    simp only [eraH, List.map_cons, putE, putT, eraE]
    split
    · rfl
    · split
      · rfl
      · have := put_era r x
        simp only [eraH, eraE] at this
        simp only [List.map_cons, this, eraE]
theorem puts_era : ∀ (us : List TEnt) (hp : THp), eraH (putsT hp us) = putsE (eraH hp) (eraH us)
  | [], hp => rfl
  | x :: r, hp => by
    simp only [putsT, eraH, List.map_cons, putsE]
    have := puts_era r (putT hp x)
    rw [put_era] at this
    exact this
theorem obj_era (hp : THp) (b u : Nat) : objOf (findE (eraH hp)) b u = (objT hp b u).map eraO := by
  unfold objOf objT
  rw [find_era]
  cases findT hp b with
  | none => rfl
  | some e =>
    simp only [Option.map_some, eraE]
    split <;> rfl

inductive VK where
  | b (x : BK)
  | n
  | r (ks : List CK)
deriving DecidableEq
def VK.T : VK → Type
  | .b x => x.T
  | .n => Nat
  | .r ks => List (rowT ks)
abbrev Vars (l : List VK) : Type := Tup VK.T l
abbrev SigV := Sigma VK.T

inductive SP where
  | v
  | lit (x : Value)
  | ptr (b off : Nat)
  | own (b : Nat)
  | agg (l : List SP)
  | tup (l : List SP)
  | fn (f : Nat) (l m : List SP)
  | ifc
  | undef
inductive OP where
  | cells (l : List SP)
  | row (rw : Bool) (et : Nat) (ks : List CK)
  | str
structure EP where
  name : Nat
  ver : Nat
  obj : OP
structure Pat where
  vars : List VK
  size : Nat
  slots : List (Nat × SP)
  heap : List EP

abbrev Exits := List (Ex × Pat)
def ExT : Exits → Type
  | [] => Empty
  | [e] => Vars e.2.vars
  | e :: e2 :: r => Vars e.2.vars ⊕ ExT (e2 :: r)

structure Loop1 where
  pat : Pat
  exits : Exits
  body : Vars pat.vars → Option (Vars pat.vars ⊕ ExT exits)
structure Cut1 where
  pat : Pat
  exits : Exits
  fn : Vars pat.vars → Option (ExT exits)


end Go.Sx

namespace Go.Sx
inductive Why where
  | op (o : Oper) (tm : List SVal) (hp : THp)
  | call (f : Nat) (args : List SVal) (ents : List TEnt)
  | loop (k : Nat) (tm : List SVal) (hp : THp)
  | cut (k : Nat) (tm : List SVal) (hp : THp)
  | leave (e : Ex) (tm : List SVal) (hp : THp)
  | code (c : Code) (tm : List SVal) (hp : THp)
  | draw (ops : List Oper)
  | need

inductive Tm (X : Type) : Type 1 where
  | ret (x : X)
  | fail (w : Why)
  | ite (b : Bool) (x y : Tm X)
  | call {β : Type} (o : Option β) (k : β → Tm X)
  | alt {A B : Type} (s : A ⊕ B) (f : A → Tm X) (g : B → Tm X)

def Tm.run {X : Type} : Tm X → Option X
  | .ret x => some x
  | .fail _ => none
  | .ite b x y => if b = true then Tm.run x else Tm.run y
  | .call o k => o.bind fun x => Tm.run (k x)
  | .alt s f g => match s with
    | .inl x => Tm.run (f x)
    | .inr x => Tm.run (g x)


structure TSum where
  pat : Pat
  O : Type
  F : Vars pat.vars → Option O
  res : O → SVal × List TEnt
  onOut : (X : Type) → O → (SVal → List TEnt → Tm X) → Tm X
  ok : ∀ (X : Type) (o : O) (K : SVal → List TEnt → Tm X), (onOut X o K).run = (K (res o).1 (res o).2).run
def TSum.one (pat : Pat) (O : Type) (F : Vars pat.vars → Option O) (res : O → SVal × List TEnt) : TSum := ⟨pat, O, F, res, fun _ o K => K (res o).1 (res o).2, fun _ _ _ => rfl⟩

structure ISum where
  at_ : List SVal → List TEnt → Option (SVal × List TEnt)

structure TCtx where
  ty : Nat → Option TI
  cmp : Nat → Option (List LK)
  gl : Glob
  kd : Nat → Option (List CK)
  sum : Nat → List TSum
  inl : Nat → Option ISum
  fuel : Nat
  loops : Nat → Option Loop1
  cuts : Nat → Option Cut1
end Go.Sx

namespace Go.Sx
abbrev QRes := Option (Bool × SVal × List TEnt)
def retQ (x : SVal) : QRes := some (true, x, [])

def absT (hp : THp) : List TEnt → Bool
  | [] => true
  | e :: r => match findT hp e.name with
    | none => absT hp r
    | some _ => false

def openT (d : Nat) : Nat → List (Sigma CK.T) → List SVal × List TEnt
  | _, [] => ([], [])
  | k, ⟨.b x, t⟩ :: r => (.v (x.enc t) :: (openT d k r).1, (openT d k r).2)
  | k, ⟨.s et bs, t⟩ :: r => (.own (callName d k) 0 :: (openT d (k + 1) r).1, ⟨callName d k, 0, .row false et (liftB bs) (upB bs t)⟩ :: (openT d (k + 1) r).2)

def loadT (gl : Glob) (t : TI) (hp : THp) (d : Nat) : SVal → QRes
  | .v (.pointer (some ⟨g, off, none⟩)) => match gl g with
    | some (.cells arr _ (0, 0)) => match pack t ((arr.toList.drop off).map .v) with
      | some x => some (decide (off + t.size ≤ arr.size), x, [])
      | none => none
    | _ => none
  | .ptr b u off => match objT hp b u with
    | some (.cells cs) => match pack t (cs.drop off) with
      | some x => some (decide (off + t.size ≤ cs.length), x, [])
      | none => none
    | _ => none
  | .elt b u sz i off => match objT hp b u with
    | some (.row _ _ ks xs) => match pack t (openT d 0 (((Tup.toL ks (xs.getD i (zeroT ks))).drop off).take t.size)).1 with
      | some x => if sz = ks.length then match decide ((openT d 0 (((Tup.toL ks (xs.getD i (zeroT ks))).drop off).take t.size)).2.length ≤ 10) && absT hp (openT d 0 (((Tup.toL ks (xs.getD i (zeroT ks))).drop off).take t.size)).2 with
        | true => some (decide (off + t.size ≤ sz) && decide (i < xs.length), x, (openT d 0 (((Tup.toL ks (xs.getD i (zeroT ks))).drop off).take t.size)).2)
        | false => none
        else none
      | none => none
    | _ => none
  | _ => none

def decC (hp : THp) : (k : CK) → SVal → Option (k.T × List TEnt)
  | .b x, .v v => match x.dec v with
    | some t => some (t, [])
    | none => none
  | .s et bs, .own b u => match objT hp b u with
    | some (.row _ et' ks xs) => if h : ks = liftB bs ∧ et' = et then some (downB bs (h.1 ▸ xs), [⟨b, u, .row false et' ks xs⟩]) else none
    | _ => none
  | _, _ => none

def spliceC (hp : THp) : (ks : List CK) → rowT ks → Nat → List SVal → Option (rowT ks × List TEnt)
  | _, t, _, [] => some (t, [])
  | [], _, _, _ :: _ => none
  | k :: ks, t, off + 1, x => match spliceC hp ks (Tup.tail k ks t) off x with
    | some (y, us) => some (Tup.cons k ks (Tup.head k ks t) y, us)
    | none => none
  | k :: ks, t, 0, x :: xs => match decC hp k x, spliceC hp ks (Tup.tail k ks t) 0 xs with
    | some (y, us), some (z, vs) => some (Tup.cons k ks y z, us ++ vs)
    | _, _ => none

def storeT (t : TI) (hp : THp) (a x : SVal) : QRes := match allSolid (cellsOf x) && (cellsOf x).length == t.size with
  | true => match a with
    | .ptr b u off => match objT hp b u with
      | some (.cells cs) => some (decide (off + t.size ≤ cs.length), .undef, [⟨b, u, .cells (splice cs off (cellsOf x))⟩])
      | _ => none
    | .elt b u sz i off => match objT hp b u with
      | some (.row true et ks xs) => match spliceC [] ks (xs.getD i (zeroT ks)) off (cellsOf x) with
        | some (y, _) => if sz = ks.length then some (decide (off + t.size ≤ sz) && decide (i < xs.length), .undef, [⟨b, u, .row true et ks (xs.set i y)⟩]) else none
        | none => none
      | _ => none
    | _ => none
  | false => none

def liftU : List Ent → Option (List TEnt)
  | [] => some []
  | ⟨n, v, .cells cs⟩ :: r => match liftU r with
    | some l => some (⟨n, v, .cells cs⟩ :: l)
    | none => none
  | ⟨n, v, .str s p⟩ :: r => match liftU r with
    | some l => some (⟨n, v, .str s p⟩ :: l)
    | none => none
  | _ :: _ => none

def binQ (op : BinOp) (x y : SVal) : Bool := match op, x, y with
  | .shl, .v (.int _ _), .v (.int _ b) => decide (0 ≤ b)
  | .shr, .v (.int _ _), .v (.int _ b) => decide (0 ≤ b)
  | .quo, .v (.int _ _), .v (.int _ b) => !(b == 0)
  | .rem, .v (.int _ _), .v (.int _ b) => !(b == 0)
  | .add, .v (.string a), .v (.string b) => decide (a.size + b.size ≤ 9223372036854775807)
  | _, _, _ => true

def nilT (hp : THp) (x y : SVal) : Bool := match x, y with
  | .own b _, .v (.slice none 0 0) => match findT hp b with
    | some ⟨_, _, .row _ _ _ xs⟩ => decide (0 < xs.length)
    | _ => true
  | _, _ => true

def buildT (hp : THp) (ks : List CK) : Nat → Nat → List (Nat × SVal) → Option (List (rowT ks) × List TEnt)
  | 0, _, [] => some ([], [])
  | n + 1, i, (j, x) :: r => match decide (i = j) && ((cellsOf x).length == ks.length) && allSolid (cellsOf x) with
    | true => match spliceC hp ks (zeroT ks) 0 (cellsOf x), buildT hp ks n (i + 1) r with
      | some (l, us), some (xs, vs) => some (l :: xs, us ++ vs)
      | _, _ => none
    | false => none
  | _, _, _ => none

def builtT (c : TCtx) (hp : THp) (d : Nat) (b : Builtin) (tys : List TypeId) (args : List SVal) : QRes := match b, args, tys with
  | .len, [.own b u], [t] => match c.ty t, objT hp b u with
    | some ⟨_, _, .slice _, _⟩, some (.row _ _ _ xs) => retQ (.v (.int .i64 xs.length))
    | _, _ => none
  | .len, [.v (.slice _ n _)], [t] => match c.ty t with
    | some ⟨_, _, .slice _, _⟩ => retQ (.v (.int .i64 n))
    | _ => none
  | .len, [.v (.string s)], [t] => match c.ty t with
    | some ⟨_, _, .str, _⟩ => retQ (.v (.int .i64 s.size))
    | _ => none
  | .append, [.own b u, .own b' u'], [t, t'] => match c.ty t, objT hp b u, objT hp b' u' with
    | some ⟨_, _, .slice e, _⟩, some (.row true et ks xs), some (.row _ _ ks' ys) => match c.ty e with
      | some te => if h : ks' = ks then match decide (e = et ∧ ks.length = te.size ∧ 0 < ks.length ∧ 0 < te.bytes ∧ te.zero.length = te.size ∧ t = t') with
        | true => some (decide ((xs.length + ys.length) * te.bytes ≤ 140737488355328), .own b (u + 1), [⟨b, u + 1, .row true et ks (xs ++ h ▸ ys)⟩])
        | false => none
        else none
      | none => none
    | _, _, _ => none
  | .append, [.v (.slice none 0 0), .own b' u'], [t, t'] => match c.ty t, objT hp b' u', findT hp (slotName d) with
    | some ⟨_, _, .slice e, _⟩, some (.row _ _ ks ys), none => match c.ty e with
      | some te => match decide (ks.length = te.size ∧ 0 < te.size ∧ 0 < te.bytes ∧ te.zero.length = te.size ∧ t = t') with
        | true => some (decide (ys.length * te.bytes ≤ 140737488355328), .own (slotName d) 0, [⟨slotName d, 0, .row true e ks ys⟩])
        | false => none
      | none => none
    | _, _, _ => none
  | .copy, [.own b u, .own b' u'], [t, _] => match c.ty t, objT hp b u, objT hp b' u' with
    | some ⟨_, _, .slice e, _⟩, some (.row true et ks xs), some (.row _ _ ks' ys) => match c.ty e with
      | some te => if h : ks' = ks then match decide (ks.length = te.size ∧ 0 < ks.length) with
        | true => some (true, .v (.int .i64 (min ys.length xs.length : Nat)), [⟨b, u, .row true et ks ((h ▸ ys).take (min ys.length xs.length) ++ xs.drop (min ys.length xs.length))⟩])
        | false => none
        else none
      | none => none
    | _, _, _ => none
  | .max, [.v (.int k a), .v (.int _ b)], _ => retQ (.v (.int k (if b > a then b else a)))
  | .min, [.v (.int k a), .v (.int _ b)], _ => retQ (.v (.int k (if b < a then b else a)))
  | _, _, _ => none

def liftQ (r : Res) (q : Bool) : QRes := match r with
  | some (_, x, us) => match liftU us with
    | some l => some (q, x, l)
    | none => none
  | none => none

def tvOp (c : TCtx) (u : Ctx) (ev : Operand → SVal) (hp : THp) (o : Oper) : QRes :=
  let d := o.dst.getD 0
  let lift (q : Bool) : QRes := liftQ (evOp u ev (findE (eraH hp)) o) q
  match o.op with
  | .load t a => match c.ty t with
    | some i => loadT c.gl i hp d (ev a)
    | none => none
  | .store t a x => match c.ty t with
    | some i => storeT i hp (ev a) (ev x)
    | none => none
  | .binOp op _ x y _ => lift (nilT hp (ev x) (ev y) && binQ op (ev x) (ev y))
  | .convert s t x => match c.ty s, c.ty t, ev x with
    | some ⟨_, _, .str, _⟩, some ⟨_, _, .slice e, _⟩, .v (.string z) => match c.ty e, findT hp (slotName d) with
      | some ⟨_, _, .int .u8, _⟩, none => some (decide (z.size ≤ 9223372036854775807), .own (slotName d) 0, [⟨slotName d, 0, .row false e [.b (.int .u8)] (z.data.toList.map fun b => (b.toNat : Int))⟩])
      | _, _ => none
    | some ⟨_, _, .slice e, _⟩, some ⟨_, _, .str, _⟩, .own b u => match c.ty e, objT hp b u with
      | some ⟨_, _, .int .u8, _⟩, some (.row _ _ [.b (.int .u8)] xs) => retQ (.v (.string (textOf xs)))
      | _, _ => none
    | _, _, _ => lift true
  | .field t x f => match c.ty t, ev x with
    | some i, .agg cs => match i.td with
      | .struct fs => match fieldAt fs f with
        | some (o', w) => match c.ty w with
          | some j => lift (decide (o' + j.size ≤ cs.length))
          | none => none
        | none => none
      | _ => none
    | _, _ => none
  | .indexAddr t x i => match c.ty t, ev x, ev i with
    | some ⟨_, _, .slice _, _⟩, .v (.slice none 0 0), .v (.int _ _) => some (false, .undef, [])
    | some ⟨_, _, .slice e, _⟩, .own b u, .v (.int _ n) => match objT hp b u, c.ty e with
      | some (.row _ _ ks xs), some te => if ks.length = te.size then some (decide (0 ≤ n) && decide (n < xs.length), .elt b u ks.length n.toNat 0, []) else none
      | _, _ => none
    | some ⟨_, _, .arr m e, _⟩, .ptr b u off, .v (.int _ n) => match c.ty e with
      | some j => some (decide (0 ≤ n) && decide (n < m), .ptr b u (off + n.toNat * j.size), [])
      | none => none
    | _, _, _ => none
  | .index t x i => match c.ty t, ev x, ev i with
    | some ⟨_, _, .str, _⟩, .v (.string s), .v (.int _ n) => some (decide (0 ≤ n) && decide (n < s.size), .v (.int .u8 (s.data.toList.getD n.toNat 0).toNat), [])
    | some ⟨_, _, .arr m e, _⟩, .agg cs, .v (.int _ n) => match c.ty e with
      | some j => match pack j (cs.drop (n.toNat * j.size)) with
        | some y => some (decide (0 ≤ n) && decide (n < m) && decide (n.toNat * j.size + j.size ≤ cs.length), y, [])
        | none => none
      | none => none
    | _, _, _ => none
  | .slice t x lo hi none => match c.ty t, ev x with
    | some ⟨_, _, .str, _⟩, .v (.string s) => match lo.map ev, hi.map ev with
      | none, none => retQ (.v (.string (s.extract 0 s.size)))
      | some (.v (.int _ a)), none => some (decide (0 ≤ a) && decide (a ≤ s.size), .v (.string (s.extract a.toNat s.size)), [])
      | none, some (.v (.int _ b)) => some (decide (0 ≤ b) && decide (b ≤ s.size), .v (.string (s.extract 0 b.toNat)), [])
      | some (.v (.int _ a)), some (.v (.int _ b)) => some (decide (0 ≤ a) && decide (a ≤ b) && decide (b ≤ s.size), .v (.string (s.extract a.toNat b.toNat)), [])
      | _, _ => none
    | some ⟨_, _, .slice e, _⟩, .own b u => match c.ty e, objT hp b u, findT hp (slotName d) with
      | some te, some (.row _ et ks xs), none => match boundS 0 (lo.map ev), boundS xs.length (hi.map ev) with
        | some A, some B => if ks.length = te.size then some (decide (0 ≤ A) && decide (A ≤ B) && decide (B ≤ xs.length), .own (slotName d) 0, [⟨b, u, .row false et ks xs⟩, ⟨slotName d, 0, .row false et ks ((xs.take B.toNat).drop A.toNat)⟩]) else none
        | _, _ => none
      | _, _, _ => none
    | some ⟨_, _, .arr m e, _⟩, .ptr b u 0 => match c.ty e, objT hp b u, findT hp (slotName d) with
      | some ⟨sz, _, .int k, _⟩, some (.cells cs), none => match boundS 0 (lo.map ev), boundS m (hi.map ev), intsOf k cs with
        | some A, some B, some ns => if sz = 1 ∧ ns.length = m ∧ m ≤ 16777216 then some (decide (0 ≤ A) && decide (A ≤ B) && decide (B ≤ m), .own (slotName d) 0, [⟨b, u + 1, .row false e [.b (.int k)] []⟩, ⟨slotName d, 0, .row false e [.b (.int k)] ((ns.take B.toNat).drop A.toNat)⟩]) else none
        | _, _, _ => none
      | _, _, _ => none
    | _, _ => none
  | .makeSlice t l k => match c.ty t, ev l, ev k with
    | some ⟨_, _, .slice e, _⟩, .v (.int _ n), .v (.int _ m) => match c.ty e, c.kd e, findT hp (slotName d) with
      | some te, some ks, none => match spliceC [] ks (zeroT ks) 0 (te.zero.map .v) with
        | some (z, _) => match decide (0 < te.size ∧ 0 < te.bytes ∧ te.zero.length = te.size ∧ ks.length = te.size) with
          | true => some (decide (0 ≤ n) && decide (n ≤ m) && decide (te.bytes * m ≤ 140737488355328), .own (slotName d) 0, [⟨slotName d, 0, .row true e ks (List.replicate n.toNat z)⟩])
          | false => none
        | none => none
      | _, _, _ => none
    | _, _, _ => none
  | .buildSlice t len parts => match c.ty t, findT hp (slotName d) with
    | some ⟨_, _, .slice e, _⟩, none => match c.ty e, c.kd e with
      | some te, some ks => match decide (te.zero.length = te.size ∧ 0 < te.size ∧ len * te.size ≤ 16777216 ∧ ks.length = te.size) with
        | true => match buildT hp ks len 0 (parts.toList.map fun p => (p.1, ev p.2)) with
          | some (xs, us) => some (true, .own (slotName d) 0, us ++ [⟨slotName d, 0, .row true e ks xs⟩])
          | none => none
        | false => none
      | _, _ => none
    | _, _ => none
  | .call k => match k.callee with
    | .builtin b => builtT c hp d b k.argTypes.toList (k.args.toList.map ev)
    | _ => none
  | _ => lift true

def sigOf : Value → Option (SigV)
  | .int k n => some ⟨.b (.int k), n⟩
  | .bool b => some ⟨.b .bool, b⟩
  | .string s => some ⟨.b .str, s⟩
  | _ => none
def litEq : Value → Value → Bool
  | .int k n, .int k' n' => k == k' && n == n'
  | .bool true, .bool true => true
  | .bool false, .bool false => true
  | .pointer none, .pointer none => true
  | .slice none 0 0, .slice none 0 0 => true
  | .nilIface, .nilIface => true
  | .nilFunc, .nilFunc => true
  | _, _ => false

abbrev NMap := List (Nat × Nat × Nat)
def NMap.at : NMap → Nat → Option (Nat × Nat)
  | [], _ => none
  | (k, x) :: r, b => if k = b then some x else NMap.at r b

mutual
def bindS : SP → SVal → NMap
  | .ptr b _, .ptr b' u _ => [(b, b', u)]
  | .own b, .own b' u => [(b, b', u)]
  | .agg l, .agg m => bindL l m
  | .tup l, .tup m => bindL l m
  | .fn _ l m, .fn _ l' m' => bindL l l' ++ bindL m m'
  | _, _ => []
def bindL : List SP → List SVal → NMap
  | p :: l, x :: r => bindS p x ++ bindL l r
  | _, _ => []
end
mutual
def matchS (m : NMap) : SP → SVal → Option (List SigV)
  | .v, .v x => match sigOf x with
    | some s => some [s]
    | none => none
  | .lit x, .v y => match litEq x y with
    | true => some []
    | false => none
  | .ptr b off, .ptr b' u off' => match m.at b with
    | some (b2, u2) => if b2 = b' ∧ u2 = u ∧ off = off' then some [] else none
    | none => none
  | .own b, .own b' u => match m.at b with
    | some (b2, u2) => if b2 = b' ∧ u2 = u then some [] else none
    | none => none
  | .agg l, .agg x => matchL m l x
  | .tup l, .tup x => matchL m l x
  | .fn f l k, .fn f' l' k' => if f = f' then match matchL m l l', matchL m k k' with
    | some a, some b => some (a ++ b)
    | _, _ => none
    else none
  | .ifc, .ifc => some []
  | .undef, _ => some []
  | _, _ => none
def matchL (m : NMap) : List SP → List SVal → Option (List SigV)
  | [], [] => some []
  | p :: l, x :: r => match matchS m p x, matchL m l r with
    | some a, some b => some (a ++ b)
    | _, _ => none
  | _, _ => none
end
def matchO (m : NMap) : OP → TObj → Option (List SigV)
  | .cells l, .cells cs => matchL m l cs
  | .row rw et ks, .row rw' et' ks' xs => if h : ks' = ks ∧ rw' = rw ∧ et' = et then some [⟨.r ks, h.1 ▸ xs⟩] else none
  | .str, .str s pos => some [⟨.b .str, s⟩, ⟨.n, pos⟩]
  | _, _ => none

def matchArgs : Nat → List (Nat × SP) → List SVal → NMap → Option (List SigV)
  | _, [], [], _ => some []
  | i, (t, p) :: l, x :: r, m => if t = i then match matchS m p x, matchArgs (i + 1) l r m with
    | some a, some b => some (a ++ b)
    | _, _ => none
    else none
  | _, _, _, _ => none
def matchEnts : List EP → List TEnt → NMap → Option (List SigV)
  | [], [], _ => some []
  | p :: l, e :: r, m => if p.name = e.name ∧ e.ver = 0 then match matchO m p.obj e.obj, matchEnts l r m with
    | some a, some b => some (a ++ b)
    | _, _ => none
    else none
  | _, _, _ => none
def idMap (l : List EP) : NMap := l.map fun e => (e.name, e.name, 0)
def unCall (P : Pat) (args : List SVal) (ents : List TEnt) : Option (Vars P.vars) := match matchArgs 0 P.slots args (idMap P.heap), matchEnts P.heap ents (idMap P.heap) with
  | some a, some b => Tup.ofL P.vars (a ++ b)
  | _, _ => none

mutual
def mkS (pv : Nat → Nat) : SP → List SigV → SVal × List SigV
  | .v, ⟨.b k, x⟩ :: r => (.v (k.enc x), r)
  | .v, r => (.undef, r)
  | .lit x, r => (.v x, r)
  | .ptr b off, r => (.ptr b (pv b) off, r)
  | .own b, r => (.own b (pv b), r)
  | .agg l, r => (.agg (mkL pv l r).1, (mkL pv l r).2)
  | .tup l, r => (.tup (mkL pv l r).1, (mkL pv l r).2)
  | .fn f l k, r => (.fn f (mkL pv l r).1 (mkL pv k (mkL pv l r).2).1, (mkL pv k (mkL pv l r).2).2)
  | .ifc, r => (.ifc, r)
  | .undef, r => (.undef, r)
def mkL (pv : Nat → Nat) : List SP → List SigV → List SVal × List SigV
  | [], r => ([], r)
  | p :: l, r => ((mkS pv p r).1 :: (mkL pv l (mkS pv p r).2).1, (mkL pv l (mkS pv p r).2).2)
end
def mkO (pv : Nat → Nat) : OP → List SigV → TObj × List SigV
  | .cells l, r => (.cells (mkL pv l r).1, (mkL pv l r).2)
  | .row rw et ks, ⟨.r ks', xs⟩ :: r => (.row rw et ks' xs, r)
  | .str, ⟨.b .str, s⟩ :: ⟨.n, p⟩ :: r => (.str s p, r)
  | _, r => (.cells [], r)
def mkSlots (pv : Nat → Nat) : List (Nat × SP) → List SVal → List SigV → List SVal × List SigV
  | [], tm, r => (tm, r)
  | (t, p) :: l, tm, r => mkSlots pv l (setn tm t (mkS pv p r).1) (mkS pv p r).2
def mkH (pv : Nat → Nat) : List EP → List SigV → THp
  | [], _ => []
  | e :: l, r => ⟨e.name, e.ver, (mkO pv e.obj r).1⟩ :: mkH pv l (mkO pv e.obj r).2
def verOf : List EP → Nat → Nat
  | [], _ => 0
  | e :: l, b => if e.name = b then e.ver else verOf l b
def mkTm (P : Pat) (v : Vars P.vars) : List SVal := (mkSlots (verOf P.heap) P.slots (List.replicate P.size .undef) (Tup.toL P.vars v)).1
def mkHp (P : Pat) (v : Vars P.vars) : THp := mkH (verOf P.heap) P.heap (mkSlots (verOf P.heap) P.slots (List.replicate P.size .undef) (Tup.toL P.vars v)).2
end Go.Sx

namespace Go.Sx
def decB : (bs : List BK) → List Value → Option (rowB bs)
  | [], [] => some ()
  | k :: bs, v :: r => match k.dec v, decB bs r with
    | some x, some y => some (Tup.cons k bs x y)
    | _, _ => none
  | _, _ => none
def decBs (bs : List BK) : List (List Value) → Option (List (rowB bs))
  | [] => some []
  | x :: r => match decB bs x, decBs bs r with
    | some y, some l => some (y :: l)
    | _, _ => none
def decCell : (k : CK) → Cell → Option k.T
  | .b x, .v v => x.dec v
  | .s et bs, .s et' sz xs => if et' = et ∧ sz = bs.length then decBs bs xs else none
  | _, _ => none
def decCells : (ks : List CK) → List Cell → Option (rowT ks)
  | [], [] => some ()
  | k :: ks, x :: r => match decCell k x, decCells ks r with
    | some y, some z => some (Tup.cons k ks y z)
    | _, _ => none
  | _, _ => none
def decRowsC (ks : List CK) : List (List Cell) → Option (List (rowT ks))
  | [] => some []
  | x :: r => match decCells ks x, decRowsC ks r with
    | some y, some l => some (y :: l)
    | _, _ => none
def decEnts (kd : Nat → Option (List CK)) : List Ent → Option (List TEnt)
  | [] => some []
  | ⟨n, v, .cells cs⟩ :: r => match decEnts kd r with
    | some l => some (⟨n, v, .cells cs⟩ :: l)
    | none => none
  | ⟨n, v, .str s p⟩ :: r => match decEnts kd r with
    | some l => some (⟨n, v, .str s p⟩ :: l)
    | none => none
  | ⟨n, v, .row rw et sz xs⟩ :: r => match kd et with
    | some ks => if sz = ks.length then match decRowsC ks xs, decEnts kd r with
      | some ys, some l => some (⟨n, v, .row rw et ks ys⟩ :: l)
      | _, _ => none
      else none
    | none => none


def trySums (args : List SVal) (ents : List TEnt) : List TSum → Res
  | [] => none
  | S :: r => match unCall S.pat args ents with
    | some v => match S.F v with
      | some o => some (True, (S.res o).1, eraH (S.res o).2)
      | none => none
    | none => trySums args ents r
def toSum (kd : Nat → Option (List CK)) (i : Option ISum) (l : List TSum) : Summary := fun args ents => match decEnts kd ents with
  | some tents => match i with
    | some I => match I.at_ args tents with
      | some (r, us) => some (True, r, eraH us)
      | none => none
    | none => trySums args tents l
  | none => none
def sumC (c : TCtx) (f : Nat) : Option Summary := match c.inl f, c.sum f with
  | none, [] => none
  | i, l => some (toSum c.kd i l)
def unC (c : TCtx) : Ctx := ⟨c.ty, c.cmp, c.gl, sumC c⟩
end Go.Sx

namespace Go.Sx
def epOf : List EP → Nat → Option EP
  | [], _ => none
  | e :: l, b => if e.name = b then some e else epOf l b

def nilSlots (P : Pat) : List (Nat × SP) → List SVal → THp → List SVal × THp
  | [], tm, hp => (tm, hp)
  | (t, .own b) :: l, tm, hp => match nth tm t with
    | .v (.slice none 0 0) => match epOf P.heap b, findT hp (1000000 + t) with
      | some ⟨_, _, .row _ et ks⟩, none => nilSlots P l (setn tm t (.own (1000000 + t) 0)) (putT hp ⟨1000000 + t, 0, .row true et ks []⟩)
      | _, _ => nilSlots P l tm hp
    | _ => nilSlots P l tm hp
  | _ :: l, tm, hp => nilSlots P l tm hp

def nilCells (P : Pat) (q : Nat) : Nat → List SP → THp → THp
  | _, [], hp => hp
  | i, .own b :: l, hp => match findT hp q with
    | some ⟨_, u, .cells cs⟩ => match nth cs i with
      | .v (.slice none 0 0) => match epOf P.heap b, findT hp (2000000 + 100 * q + i) with
        | some ⟨_, _, .row _ et ks⟩, none => nilCells P q (i + 1) l (putT (putT hp ⟨2000000 + 100 * q + i, 0, .row true et ks []⟩) ⟨q, u, .cells (setn cs i (.own (2000000 + 100 * q + i) 0))⟩)
        | _, _ => nilCells P q (i + 1) l hp
      | _ => nilCells P q (i + 1) l hp
    | _ => nilCells P q (i + 1) l hp
  | i, _ :: l, hp => nilCells P q (i + 1) l hp

def bindSlots : List (Nat × SP) → List SVal → NMap
  | [], _ => []
  | (t, p) :: l, tm => bindS p (nth tm t) ++ bindSlots l tm
def bindHeap (P : Pat) : List EP → THp → NMap → THp × NMap
  | [], hp, m => (hp, m)
  | ⟨b, _, .cells l⟩ :: r, hp, m => match m.at b with
    | some (q, u) => match findT (nilCells P q 0 l hp) q with
      | some ⟨_, _, .cells cs⟩ => bindHeap P r (nilCells P q 0 l hp) (m ++ bindL l cs)
      | _ => bindHeap P r hp m
    | none => bindHeap P r hp m
  | _ :: r, hp, m => bindHeap P r hp m
def freezeAll (m : NMap) : List EP → THp → THp
  | [], hp => hp
  | ⟨b, _, .row false _ _⟩ :: r, hp => match m.at b with
    | some (q, _) => match findT hp q with
      | some ⟨_, u, .row true et ks xs⟩ => freezeAll m r (putT hp ⟨q, u, .row false et ks xs⟩)
      | _ => freezeAll m r hp
    | none => freezeAll m r hp
  | _ :: r, hp => freezeAll m r hp

def paramMap (hp : THp) : List EP → NMap
  | [] => []
  | e :: r => if e.name < 100 then match findT hp e.name with
    | some x => (e.name, e.name, x.ver) :: paramMap hp r
    | none => paramMap hp r
    else paramMap hp r

def nodupM (m : NMap) (l : List EP) : List Nat → Bool
  | seen => match l with
    | [] => true
    | e :: r => match m.at e.name with
      | some (q, u) => !(seen.contains q) && (decide (e.name < 100) == decide (q < 100)) && (decide (100 ≤ e.name) || (decide (q = e.name) && (decide (0 < e.ver) || decide (u = 0)))) && nodupM m r (q :: seen)
      | none => false
def paramsIn (l : List EP) : THp → Bool
  | [] => true
  | e :: r => (decide (100 ≤ e.name) || (epOf l e.name).isSome) && paramsIn l r

def namesOk (l : List EP) : NMap → Bool
  | [] => true
  | x :: r => (epOf l x.1).isSome && namesOk l r

def matchSlots (m : NMap) : List (Nat × SP) → List SVal → Option (List SigV)
  | [], _ => some []
  | (t, p) :: l, tm => match matchS m p (nth tm t), matchSlots m l tm with
    | some a, some b => some (a ++ b)
    | _, _ => none
def matchHeap (m : NMap) : List EP → THp → Option (List SigV)
  | [], _ => some []
  | e :: l, hp => match m.at e.name with
    | some (q, u) => match objT hp q u with
      | some o => match matchO m e.obj o, matchHeap m l hp with
        | some a, some b => some (a ++ b)
        | _, _ => none
      | none => none
    | none => none

def unSt (P : Pat) (tm : List SVal) (hp : THp) : Option (Vars P.vars) :=
  let s1 := nilSlots P P.slots tm hp
  let s2 := bindHeap P P.heap s1.2 (paramMap s1.2 P.heap ++ bindSlots P.slots s1.1)
  let hp3 := freezeAll s2.2 P.heap s2.1
  match nodupM s2.2 P.heap [] && paramsIn P.heap hp3 && namesOk P.heap s2.2 && decide (s1.1.length = P.size) with
  | true => match matchSlots s2.2 P.slots s1.1, matchHeap s2.2 P.heap hp3 with
    | some a, some b => Tup.ofL P.vars (a ++ b)
    | _, _ => none
  | false => none

abbrev TKN (X : Type) := List SVal → THp → Tm X
abbrev TK (X : Type) := Ex → List SVal → THp → Tm X

def asks {X : Type} (b : Bool) (w : Why) (x : Tm X) : Tm X := match b with
  | true => x
  | false => .fail w
def needs {X : Type} (b : Bool) (x : Tm X) : Tm X := .ite b x (.fail .need)

def iteW {X : Type} (want b : Bool) (x y : Tm X) : Tm X := match want with
  | true => .ite b x y
  | false => .ite b y x

def pickT (hp : THp) : List Ent → Option (List TEnt)
  | [] => some []
  | e :: r => match findT hp e.name, pickT hp r with
    | some x, some l => some (x :: l)
    | _, _ => none
def mapT (f : Nat → Nat → Nat × Nat) : TObj → TObj
  | .cells cs => .cells (mapRL f cs)
  | o => o
def numberT (acc : List Ent) : Nat → List TEnt → List TEnt
  | _, [] => []
  | j, e :: r => ⟨j, 0, mapT (inward acc) e.obj⟩ :: numberT acc (j + 1) r
def outT (acc : List Ent) (d : Nat) : List TEnt → List TEnt
  | [] => []
  | e :: r => ⟨(outward acc d e.name e.ver).1, (outward acc d e.name e.ver).2, mapT (outward acc d) e.obj⟩ :: outT acc d r
def kdOk (kd : Nat → Option (List CK)) : List TEnt → Bool
  | [] => true
  | ⟨_, _, .row _ et ks _⟩ :: r => (kd et == some ks) && kdOk kd r
  | _ :: r => kdOk kd r

def tvSums {X : Type} (f : Nat) (args : List SVal) (ents : List TEnt) (K : SVal → List TEnt → Tm X) : List TSum → Tm X
  | [] => .fail (.call f args ents)
  | S :: r => match unCall S.pat args ents with
    | some v => .call (S.F v) fun o => S.onOut X o K
    | none => tvSums f args ents K r

def tvInl {X : Type} (f : Nat) (args : List SVal) (ents : List TEnt) (K : SVal → List TEnt → Tm X) (i : Option ISum) (l : List TSum) : Tm X := match i with
  | some I => match I.at_ args ents with
    | some (r, us) => K r us
    | none => .fail (.call f args ents)
  | none => tvSums f args ents K l

def tvCall {X : Type} (c : TCtx) (hp : THp) (d f : Nat) (args : List SVal) (w : Why) (K : SVal → List TEnt → Tm X) : Tm X := match reach (findE (eraH hp)) 40 (refsL args) [] with
  | some acc => match pickT hp acc with
    | some tacc => asks (kdOk c.kd tacc) w (tvInl f (mapRL (inward acc) args) (numberT acc 0 tacc) (fun r us => asks (freshOk (findE (eraH hp)) acc.length d (eraH us)) w (K (mapR (outward acc d) r) (outT acc d us))) (c.inl f) (c.sum f))
    | none => .fail w
  | none => .fail w

def callOf (ev : Operand → SVal) (o : Oper) : Option (Nat × List SVal) := match o.op with
  | .call k => match k.callee with
    | .value f => match ev f with
      | .fn f first cap => some (f, first ++ k.args.toList.map ev ++ cap)
      | _ => none
    | _ => none
  | _ => none

def bareC (c : TCtx) : Ctx := ⟨c.ty, c.cmp, c.gl, fun _ => none⟩

def forceL {R : Type 1} : List SVal → (List SVal → R) → R
  | [], k => k []
  | x :: r, k => forceL r fun r => k (x :: r)
def forceH {R : Type 1} : THp → (THp → R) → R
  | [], k => k []
  | ⟨n, v, o⟩ :: r, k => forceH r fun r => k (⟨n, v, o⟩ :: r)
def force {X : Type} (tm : List SVal) (hp : THp) (K : List SVal → THp → Tm X) : Tm X := forceL tm fun tm => forceH hp fun hp => K tm hp
theorem forceL_eq {R : Type 1} : ∀ (l : List SVal) (k : List SVal → R), forceL l k = k l
  | [], k => rfl
  | x :: r, k => by simp only [forceL, forceL_eq r]
theorem forceH_eq {R : Type 1} : ∀ (l : THp) (k : THp → R), forceH l k = k l
  | [], k => rfl
  | ⟨n, v, o⟩ :: r, k => by simp only [forceH, forceH_eq r]
theorem force_eq {X : Type} (tm : List SVal) (hp : THp) (K : List SVal → THp → Tm X) : force tm hp K = K tm hp := by unfold force; rw [forceL_eq, forceH_eq]

def tvX {X : Type} (c : TCtx) (o : Oper) (tm : List SVal) (hp : THp) (K : SVal → List TEnt → Tm X) : Tm X := match callOf (evA tm) o with
  | some (f, args) => tvCall c hp (o.dst.getD 0) f args (.op o tm hp) K
  | none => match tvOp c (unC c) (evA tm) hp o with
    | some (q, x, us) => needs q (K x us)
    | none => .fail (.op o tm hp)

def tvO {X : Type} (c : TCtx) (o : Oper) (tm : List SVal) (hp : THp) (K : TKN X) : Tm X := match o.op with
  | .next x true => match evA tm x with
    | .ptr b u 0 => match objT hp b u with
      | some (.str s pos) => .ite (decide (pos < s.size))
          (K (putD tm o.dst (.tup [.v (.bool true), .v (.int .i64 pos), .v (.int .i32 (Utf8.decode s pos).1)])) (putT hp ⟨b, u, .str s (pos + (Utf8.decode s pos).2)⟩))
          (K (putD tm o.dst (.tup [.v (.bool false)])) hp)
      | _ => .fail (.op o tm hp)
    | _ => .fail (.op o tm hp)
  | _ => tvX c o tm hp fun x us => force (putD tm o.dst x) (putsT hp us) K

def tvL {X : Type} (c : TCtx) (ops : List Oper) : List Oper → List SVal → THp → TKN X → Tm X
  | [], tm, hp, K => K tm hp
  | o :: r, tm, hp, K => match o.guard with
    | none => tvO c o tm hp fun tm hp => tvL c ops r tm hp K
    | some (j, want) => match dstOf ops j with
      | some t => match nth tm t with
        | .v (.bool b) => iteW want b (tvO c o (setn tm t (.v (.bool want))) hp fun tm hp => tvL c ops r tm hp K) (tvL c ops r (putD (setn tm t (.v (.bool !want))) o.dst (.tup [])) hp K)
        | .tup [] => tvL c ops r (putD tm o.dst (.tup [])) hp K
        | _ => .fail (.op o tm hp)
      | none => .fail (.op o tm hp)

def tvD {X : Type} (c : TCtx) (ops : List Oper) : List Oper → List SVal → THp → List TrE → (List SVal → THp → List TrE → Tm X) → Tm X
  | [], tm, hp, tr, K => K tm hp tr
  | o :: r, tm, hp, tr, K => match o.guard with
    | none => tvX c o tm hp fun x us => force (putD tm o.dst x) (putsT hp us) fun tm' hp' => tvD c ops r tm' hp' (tr ++ [trOn ops o tm (eraH hp) (eraH us)]) K
    | some (j, want) => match dstOf ops j with
      | some t => match nth tm t with
        | .v (.bool b) => iteW want b
            (tvX c o (setn tm t (.v (.bool want))) hp fun x us => tvD c ops r (putD (setn tm t (.v (.bool want))) o.dst x) (putsT hp us) (tr ++ [trOn ops o (setn tm t (.v (.bool want))) (eraH hp) (eraH us)]) K)
            (tvD c ops r (putD (setn tm t (.v (.bool !want))) o.dst (.tup [])) hp (tr ++ [trOff ops o]) K)
        | .tup [] => tvD c ops r (putD tm o.dst (.tup [])) hp (tr ++ [trOff ops o]) K
        | _ => .fail (.op o tm hp)
      | none => .fail (.op o tm hp)

def tvR {X : Type} (c : TCtx) (ops : Array Oper) (draw : Bool) (tm : List SVal) (hp : THp) (K : TKN X) : Tm X := match draw with
  | true => tvD c ops.toList ops.toList tm hp [] fun tm hp tr => asks (okT ops.toList tr) (.draw ops.toList) (K tm hp)
  | false => tvL c ops.toList ops.toList tm hp K

def keyOf : Code → Nat
  | .region id _ _ => id
  | .seq a _ => keyOf a
  | .block _ b => keyOf b
  | .loop b => keyOf b
  | _ => 1000

def tThen {X : Type} (f : TKN X) (K : TK X) : TK X
  | .normal, tm, hp => f tm hp
  | .exit i, tm, hp => K (.exit i) tm hp
  | .ret, tm, hp => K .ret tm hp
def tIn {X : Type} (id : Nat) (K : TK X) : TK X
  | .normal, tm, hp => K .normal tm hp
  | .exit i, tm, hp => if i = id then K .normal tm hp else K (.exit i) tm hp
  | .ret, tm, hp => K .ret tm hp
def tCond {X : Type} (tm : List SVal) (x : Operand) (w : Why) (A B : List SVal → Tm X) : Tm X := match x with
  | .tmp t => match nth tm t with
    | .v (.bool b) => .ite b (A (setn tm t (.v (.bool true)))) (B (setn tm t (.v (.bool false))))
    | _ => .fail w
  | .const (.bool b) => match b with
    | true => A tm
    | false => B tm
  | _ => .fail w

def goOn {X : Type} (K : TK X) : (l : Exits) → ExT l → Tm X
  | [], _ => .fail .need
  | [e], x => K e.1 (mkTm e.2 x) (mkHp e.2 x)
  | e :: e2 :: r, x => .alt x (fun y => K e.1 (mkTm e.2 y) (mkHp e.2 y)) (goOn K (e2 :: r))
def sameEx : Ex → Ex → Bool
  | .normal, .normal => true
  | .exit i, .exit j => i == j
  | .ret, .ret => true
  | _, _ => false
def leaveAt {X : Type} : (l : Exits) → (ExT l → X) → Ex → List SVal → THp → Tm X
  | [], _, e, tm, hp => .fail (.leave e tm hp)
  | [e0], f, e, tm, hp => match sameEx e0.1 e with
    | true => match unSt e0.2 tm hp with
      | some v => .ret (f v)
      | none => .fail (.leave e tm hp)
    | false => .fail (.leave e tm hp)
  | e0 :: e2 :: r, f, e, tm, hp => match sameEx e0.1 e with
    | true => match unSt e0.2 tm hp with
      | some v => .ret (f (.inl v))
      | none => leaveAt (e2 :: r) (fun x => f (.inr x)) e tm hp
    | false => leaveAt (e2 :: r) (fun x => f (.inr x)) e tm hp


def loopN {X : Type} (key : Nat) (F : List SVal → THp → TK X → Tm X) (K : TK X) : Nat → List SVal → THp → Tm X
  | 0, tm, hp => .fail (.loop key tm hp)
  | n + 1, tm, hp => F tm hp (tThen (loopN key F K n) K)

noncomputable def tvC {X : Type} (c : TCtx) : Code → List SVal → THp → TK X → Tm X
  | .skip, tm, hp, K => K .normal tm hp
  | .region _ ops draw, tm, hp, K => tvR c ops draw tm hp (K .normal)
  | .seq a b, tm, hp, K => tvC c a tm hp (tThen (fun tm hp => match c.cuts (keyOf b) with
    | some q => match unSt q.pat tm hp with
      | some v => .call (q.fn v) fun x => goOn K q.exits x
      | none => .fail (.cut (keyOf b) tm hp)
    | none => tvC c b tm hp K) K)
  | .cond x a b, tm, hp, K => tCond tm x (.code (.cond x .skip .skip) tm hp) (fun tm => tvC c a tm hp K) (fun tm => tvC c b tm hp K)
  | .block id b, tm, hp, K => tvC c b tm hp (tIn id K)
  | .loop b, tm, hp, K => match c.loops (keyOf b) with
    | some q => match unSt q.pat tm hp with
      | some v => .call (runLoop q.body v) fun x => goOn K q.exits x
      | none => .fail (.loop (keyOf b) tm hp)
    | none => loopN (keyOf b) (fun tm hp K => tvC c b tm hp K) K c.fuel tm hp
  | .exit id, tm, hp, K => K (.exit id) tm hp
  | .ret, tm, hp, K => K .ret tm hp
  | x, tm, hp, _ => .fail (.code x tm hp)

def subAt : List Nat → Code → Code
  | [], c => c
  | 0 :: r, .seq a _ => subAt r a
  | _ :: r, .seq _ b => subAt r b
  | 0 :: r, .cond _ a _ => subAt r a
  | _ :: r, .cond _ _ b => subAt r b
  | _ :: r, .block _ b => subAt r b
  | _ :: r, .loop b => subAt r b
  | _, c => c
def lookL {α : Type} : List (Nat × α) → Nat → Option α
  | [], _ => none
  | (k, x) :: r, t => if k = t then some x else lookL r t
def lookS : List (Nat × List TSum) → Nat → List TSum
  | [], _ => []
  | (k, x) :: r, t => if k = t then x else lookS r t

noncomputable def pieceT (c : TCtx) (P : Pat) (l : Exits) (b : Code) (v : Vars P.vars) : Tm (ExT l) := tvC c b (mkTm P v) (mkHp P v) (leaveAt l id)
noncomputable def mainT (c : TCtx) (P : Pat) (l : Exits) (b : Code) (v : Vars P.vars) : Tm (ExT l) := tvC c b (mkTm P v) (mkHp P v) fun e tm hp => match e with
  | .exit i => .fail (.leave (.exit i) tm hp)
  | _ => leaveAt l id .ret tm hp
def exitT (acc : List Ent) (m : Nat) : Nat → List TEnt → List TEnt
  | _, [] => []
  | j, e :: r => ⟨j, (if j < m then min e.ver 1 else 0), mapT (exitMap acc m) e.obj⟩ :: exitT acc m (j + 1) r
def resT (c : TCtx) (rs : List ResultVar) (m : Nat) (tm : List SVal) (hp : THp) : SVal × List TEnt := match resOf (bareC c) tm (findE (eraH hp)) rs with
  | some (_, vs) => match reach (findE (eraH hp)) 60 (paramRefs (findE (eraH hp)) m ++ refsL vs) [] with
    | some acc => match pickT hp acc with
      | some tacc => (resTup (mapRL (exitMap acc m) vs), exitT acc m 0 tacc)
      | none => (.undef, [])
    | none => (.undef, [])
  | none => (.undef, [])
def resB (c : TCtx) (tm : List SVal) (hp : THp) : List ResultVar → Bool
  | [] => true
  | .tmp t :: r => decide (t < tm.length) && resB c tm hp r
  | .cell a t :: r => (match c.ty t with
    | some i => match nth tm a with
      | .ptr b u off => match objT hp b u with
        | some (.cells cs) => decide (off + i.size ≤ cs.length)
        | _ => false
      | _ => false
    | none => false) && resB c tm hp r
def exitB (c : TCtx) (rs : List ResultVar) (m : Nat) (tm : List SVal) (hp : THp) : Bool := resB c tm hp rs && match resOf (bareC c) tm (findE (eraH hp)) rs with
  | some (_, vs) => match reach (findE (eraH hp)) 60 (paramRefs (findE (eraH hp)) m ++ refsL vs) [] with
    | some acc => match pickT hp acc with
      | some tacc => firstAre m 0 acc
      | none => false
    | none => false
  | none => false
def exitX (c : TCtx) (rs : List ResultVar) (m : Nat) : (l : Exits) → ExT l → Bool
  | [], x => x.elim
  | [e], x => exitB c rs m (mkTm e.2 x) (mkHp e.2 x)
  | e :: e2 :: r, x => match x with
    | .inl y => exitB c rs m (mkTm e.2 y) (mkHp e.2 y)
    | .inr y => exitX c rs m (e2 :: r) y
def entryB (P : Pat) : Bool := nodupM (idMap P.heap) P.heap [] && namesOk P.heap (idMap P.heap) && decide (P.heap.length < 100) && decide (P.slots.length ≤ P.size)
def resX (c : TCtx) (rs : List ResultVar) (m : Nat) : (l : Exits) → ExT l → SVal × List TEnt
  | [], x => x.elim
  | [e], x => resT c rs m (mkTm e.2 x) (mkHp e.2 x)
  | e :: e2 :: r, x => match x with
    | .inl y => resT c rs m (mkTm e.2 y) (mkHp e.2 y)
    | .inr y => resX c rs m (e2 :: r) y
def outX {X : Type} (c : TCtx) (rs : List ResultVar) (m : Nat) (K : SVal → List TEnt → Tm X) : (l : Exits) → ExT l → Tm X
  | [], x => x.elim
  | [e], x => K (resT c rs m (mkTm e.2 x) (mkHp e.2 x)).1 (resT c rs m (mkTm e.2 x) (mkHp e.2 x)).2
  | e :: e2 :: r, x => .alt x (fun y => K (resT c rs m (mkTm e.2 y) (mkHp e.2 y)).1 (resT c rs m (mkTm e.2 y) (mkHp e.2 y)).2) (outX c rs m K (e2 :: r))
theorem outX_run {X : Type} (c : TCtx) (rs : List ResultVar) (m : Nat) (K : SVal → List TEnt → Tm X) : ∀ (l : Exits) (x : ExT l), (outX c rs m K l x).run = (K (resX c rs m l x).1 (resX c rs m l x).2).run
  | [], x => x.elim
  | [e], x => rfl
  | e :: e2 :: r, .inl y => rfl
  | e :: e2 :: r, .inr y => outX_run c rs m K (e2 :: r) y
def TSum.of (c : TCtx) (rs : List ResultVar) (m : Nat) (pat : Pat) (l : Exits) (F : Vars pat.vars → Option (ExT l)) : TSum := ⟨pat, ExT l, F, resX c rs m l, fun _ o K => outX c rs m K l o, fun _ o K => outX_run c rs m K l o⟩
noncomputable def roundT (c : TCtx) (P : Pat) (l : Exits) (b : Code) (v : Vars P.vars) : Tm (Vars P.vars ⊕ ExT l) := tvC c b (mkTm P v) (mkHp P v) fun e tm hp => match e with
  | .normal => match unSt P tm hp with
    | some v => .ret (.inl v)
    | none => .fail (.leave e tm hp)
  | e => leaveAt l .inr e tm hp
end Go.Sx

namespace Go.Sx
theorem cast_list {A B : Type} (h : A = B) (l : List A) : cast (congrArg List h) l = l.map (cast h) := by subst h; exact (List.map_id l).symm
theorem cast_prod {A B C : Type} (h : B = C) (x : A × B) : cast (congrArg (fun t => A × t) h) x = (x.1, cast h x.2) := by subst h; rfl

theorem up_enc : ∀ (bs : List BK) (x : rowB bs), encT (liftB bs) (cast (lift_tup bs).symm x) = (encB bs x).map Cell.v
  | [], x => rfl
  | [k], x => rfl
  | k :: k2 :: r, x => by
    have key : ∀ (a : BK.T k) (b : rowB (k2 :: r)), encT (liftB (k :: k2 :: r)) (cast (lift_tup (k :: k2 :: r)).symm ((a, b) : BK.T k × rowB (k2 :: r))) = Cell.v (k.enc a) :: (encB (k2 :: r) b).map Cell.v := by
      intro a b
      have hc : cast (lift_tup (k :: k2 :: r)).symm ((a, b) : BK.T k × rowB (k2 :: r)) = ((a, cast (lift_tup (k2 :: r)).symm b) : BK.T k × rowT (liftB (k2 :: r))) := cast_prod (lift_tup (k2 :: r)).symm (a, b)
      rw [hc, ← up_enc (k2 :: r) b]
      rfl
    exact key (Tup.head k (k2 :: r) x) (Tup.tail k (k2 :: r) x)
theorem upB_enc (bs : List BK) (xs : List (rowB bs)) : (upB bs xs).map (encT (liftB bs)) = (xs.map (encB bs)).map (fun l => l.map Cell.v) := by
  unfold upB
  rw [cast_list (lift_tup bs).symm xs, List.map_map, List.map_map]
  exact List.map_congr_left (fun x _ => up_enc bs x)
theorem upB_downB (bs : List BK) (xs : List (rowT (liftB bs))) : upB bs (downB bs xs) = xs := by
  unfold upB downB
  simp
theorem encT_length (ks : List CK) (x : rowT ks) : (encT ks x).length = ks.length := by
  unfold encT; rw [List.length_map, Tup.toL_length]
theorem liftB_length (bs : List BK) : (liftB bs).length = bs.length := by simp [liftB]

theorem objT_map {hp : THp} {b u : Nat} {o : TObj} (h : objT hp b u = some o) : objOf (findE (eraH hp)) b u = some (eraO o) := by
  rw [obj_era, h]; rfl
theorem findT_none {hp : THp} {b : Nat} (h : findT hp b = none) : findE (eraH hp) b = none := by rw [find_era, h]; rfl
theorem findT_some {hp : THp} {b : Nat} {e : TEnt} (h : findT hp b = some e) : findE (eraH hp) b = some (eraE e) := by rw [find_era, h]; rfl

theorem absT_era {hp : THp} : ∀ {us : List TEnt}, absT hp us = true → absentAll (findE (eraH hp)) (eraH us) = true
  | [], _ => rfl
  | e :: r, h => by
    simp only [absT] at h
    split at h
    · rename_i hn
      simp only [eraH, List.map_cons, absentAll, eraE, Bool.and_eq_true, Option.isNone_iff_eq_none]
      exact ⟨findT_none hn, absT_era h⟩
    · cases h

theorem ent_era (n et : Nat) (bs : List BK) (t : List (rowB bs)) : eraE ⟨n, 0, .row false et (liftB bs) (upB bs t)⟩ = ⟨n, 0, .row false et bs.length ((t.map (encB bs)).map fun l => l.map Cell.v)⟩ := by
  simp only [eraE, eraO]
  rw [upB_enc, liftB_length]
theorem open_era (d : Nat) : ∀ (l : List (Sigma CK.T)) (k : Nat), openCells d k (l.map fun s => s.1.enc s.2) = ((openT d k l).1, eraH (openT d k l).2)
  | [], k => rfl
  | ⟨.b x, t⟩ :: r, k => by
    show openCells d k (Cell.v (x.enc t) :: r.map fun s => s.1.enc s.2) = _
    simp only [openCells, openT]
    rw [open_era d r k]
  | ⟨.s et bs, t⟩ :: r, k => by
    show openCells d k (Cell.s et bs.length (List.map (encB bs) t) :: r.map fun s => s.1.enc s.2) = _
    simp only [openCells, openT]
    rw [open_era d r (k + 1)]
    exact congrArg (fun e => (SVal.own (callName d k) 0 :: (openT d (k + 1) r).1, e :: eraH (openT d (k + 1) r).2)) (ent_era (callName d k) et bs t).symm

def Same (r : Res) (q : Bool) (x : SVal) (us : List TEnt) : Prop := q = true → ∃ p, r = some (p, x, eraH us) ∧ p

theorem loadT_era {gl : Glob} {t : TI} {hp : THp} {d : Nat} {a : SVal} {q : Bool} {x : SVal} {us : List TEnt} (h : loadT gl t hp d a = some (q, x, us)) : Same (loadS gl t (findE (eraH hp)) d a) q x us := by
  intro hq
  subst hq
  unfold loadT at h
  split at h
  · rename_i g off
    split at h
    · rename_i arr ty hg
      split at h
      · rename_i y hy
        simp only [Option.some.injEq, Prod.mk.injEq] at h
        obtain ⟨h1, rfl, rfl⟩ := h
        refine ⟨_, by simp only [loadS, hg, hy]; rfl, by simpa using h1⟩
      · cases h
    · cases h
  · rename_i b u off
    split at h
    · rename_i cs hcs
      split at h
      · rename_i y hy
        simp only [Option.some.injEq, Prod.mk.injEq] at h
        obtain ⟨h1, rfl, rfl⟩ := h
        refine ⟨_, by simp only [loadS, objT_map hcs, eraO, hy]; rfl, by simpa using h1⟩
      · cases h
    · cases h
  · rename_i b u sz i off
    split at h
    · rename_i rw' et ks xs hob
      split at h
      · rename_i y hy
        split at h
        · rename_i hsz
          split at h
          · rename_i hcond
            simp only [Option.some.injEq, Prod.mk.injEq, Bool.and_eq_true, decide_eq_true_eq] at h
            obtain ⟨⟨h1, h2⟩, rfl, rfl⟩ := h
            have hget : (xs.map (encT ks)).getD i [] = encT ks (xs.getD i (zeroT ks)) := by
              rw [List.getD_eq_getElem?_getD, List.getD_eq_getElem?_getD, List.getElem?_map, List.getElem?_eq_getElem h2]
              rfl
            have hcells : ((encT ks (xs.getD i (zeroT ks))).drop off).take t.size = (((Tup.toL ks (xs.getD i (zeroT ks))).drop off).take t.size).map fun s => s.1.enc s.2 := by
              unfold encT
              rw [List.map_take, List.map_drop]
            simp only [Bool.and_eq_true, decide_eq_true_eq] at hcond
            refine ⟨i < (xs.map (encT ks)).length ∧ off + t.size ≤ sz, ?_, ⟨by rw [List.length_map]; exact h2, h1⟩⟩
            simp only [loadS, objT_map hob, eraO]
            rw [hget, hcells, open_era]
            simp only [hy]
            rw [if_pos]
            simp only [Bool.and_eq_true, decide_eq_true_eq]
            refine ⟨⟨hsz, ?_⟩, absT_era hcond.2⟩
            rw [eraH, List.length_map]; exact hcond.1
          · cases h
        · cases h
      · cases h
    · cases h
  · cases h

theorem dec_enc : ∀ (k : BK) (v : Value) (t : k.T), k.dec v = some t → k.enc t = v
  | .int k, v, t, h => by
    cases v <;> simp only [BK.dec] at h <;> try cases h
    split at h
    · rename_i hk; cases h; subst hk; rfl
    · cases h
  | .bool, v, t, h => by
    cases v <;> simp only [BK.dec] at h <;> cases h
    rfl
  | .str, v, t, h => by
    cases v <;> simp only [BK.dec] at h <;> cases h
    rfl

theorem plainRow_map : ∀ (l : List Value), plainRow (l.map Cell.v) = some l
  | [] => rfl
  | x :: r => by simp only [List.map_cons, plainRow, plainRow_map r]
theorem plainRows_map : ∀ (l : List (List Value)), plainRows (l.map fun x => x.map Cell.v) = some l
  | [] => rfl
  | x :: r => by simp only [List.map_cons, plainRows, plainRow_map, plainRows_map r]

theorem decC_era {hp : THp} (k : CK) (x : SVal) (t : k.T) (us : List TEnt) (h : decC hp k x = some (t, us)) (r : List SVal) :
    shutCells (findE (eraH hp)) (x :: r) = match shutCells (findE (eraH hp)) r with
      | some (l, vs) => some (k.enc t :: l, eraH us ++ vs)
      | none => none := by
  unfold decC at h
  split at h
  · rename_i b v
    split at h
    · rename_i t' ht
      cases h
      simp only [shutCells, CK.enc, dec_enc _ _ _ ht, eraH, List.map_nil, List.nil_append]
      rfl
    · cases h
  · rename_i et bs b u
    split at h
    · rename_i rw' et' ks xs hob
      split at h
      · rename_i hk
        obtain ⟨rfl, rfl⟩ := hk
        cases h
        simp only [shutCells, objT_map hob, eraO]
        have he : xs.map (encT (liftB bs)) = ((downB bs xs).map (encB bs)).map fun l => l.map Cell.v := by
          rw [← upB_enc, upB_downB]
        rw [he, plainRows_map]
        cases shutCells (findE (eraH hp)) r with
        | none => rfl
        | some p =>
          simp only [CK.enc, eraH, List.map_cons, List.map_nil, eraE, eraO, List.cons_append, List.nil_append, he, liftB_length]
      · cases h
    · cases h
  · cases h

theorem splice_nil {α : Type} (l : List α) (off : Nat) : splice l off [] = l := by simp [splice]
theorem splice_tail {α : Type} (y : α) (l : List α) (off : Nat) (x : List α) : splice (y :: l) (off + 1) x = y :: splice l off x := by
  simp only [splice, List.take_succ_cons, List.cons_append]
  rw [show off + 1 + x.length = (off + x.length) + 1 by omega, List.drop_succ_cons]
theorem splice_head {α : Type} (y : α) (l : List α) (z : α) (x : List α) : splice (y :: l) 0 (z :: x) = z :: splice l 0 x := by
  simp [splice]

theorem encT_cons (k : CK) (ks : List CK) (x : k.T) (y : rowT ks) : encT (k :: ks) (Tup.cons k ks x y) = k.enc x :: encT ks y := by
  unfold encT
  simp only [Tup.toL, List.map_cons, Tup.head_cons, Tup.tail_cons]
theorem encT_parts (k : CK) (ks : List CK) (t : rowT (k :: ks)) : encT (k :: ks) t = k.enc (Tup.head k ks t) :: encT ks (Tup.tail k ks t) := rfl

theorem spliceC_era {hp : THp} : ∀ (ks : List CK) (t : rowT ks) (off : Nat) (x : List SVal) (y : rowT ks) (us : List TEnt), spliceC hp ks t off x = some (y, us) →
    ∃ l, shutCells (findE (eraH hp)) x = some (l, eraH us) ∧ encT ks y = splice (encT ks t) off l
  | ks, t, off, [], y, us, h => by
    have : spliceC hp ks t off [] = some (t, []) := by cases ks <;> cases off <;> rfl
    rw [this] at h
    cases h
    exact ⟨[], rfl, (splice_nil _ _).symm⟩
  | [], t, off, x :: xs, y, us, h => by simp [spliceC] at h
  | k :: ks, t, off + 1, x :: xs, y, us, h => by
    simp only [spliceC] at h
    split at h
    · rename_i y' us' hs
      cases h
      obtain ⟨l, h1, h2⟩ := spliceC_era ks _ off (x :: xs) y' us hs
      refine ⟨l, h1, ?_⟩
      rw [encT_cons, encT_parts, splice_tail, h2]
    · cases h
  | k :: ks, t, 0, x :: xs, y, us, h => by
    simp only [spliceC] at h
    split at h
    · rename_i y1 us1 z us2 hd hs
      cases h
      obtain ⟨l, h1, h2⟩ := spliceC_era ks _ 0 xs z us2 hs
      refine ⟨k.enc y1 :: l, ?_, ?_⟩
      · rw [decC_era k x y1 us1 hd xs, h1]
        simp only [eraH, List.map_append]
      · rw [encT_cons, encT_parts, splice_head, h2]
    · cases h

theorem storeT_era {t : TI} {hp : THp} {a y : SVal} {q : Bool} {x : SVal} {us : List TEnt} (h : storeT t hp a y = some (q, x, us)) : Same (storeS t (findE (eraH hp)) a y) q x us := by
  intro hq
  subst hq
  unfold storeT at h
  split at h
  · rename_i hsol
    split at h
    · rename_i b u off
      split at h
      · rename_i cs hcs
        simp only [Option.some.injEq, Prod.mk.injEq] at h
        obtain ⟨h1, rfl, rfl⟩ := h
        refine ⟨_, by simp only [storeS, hsol, if_true, objT_map hcs, eraO]; rfl, by simpa using h1⟩
      · cases h
    · rename_i b u sz i off
      split at h
      · rename_i et ks xs hob
        split at h
        · rename_i z us' hz
          split at h
          · rename_i hsz
            simp only [Option.some.injEq, Prod.mk.injEq, Bool.and_eq_true, decide_eq_true_eq] at h
            obtain ⟨⟨h1, h2⟩, rfl, rfl⟩ := h
            obtain ⟨l, e1, e2⟩ := spliceC_era ks _ off _ z us' hz
            have e1' : shutCells (fun _ => none) (cellsOf y) = some (l, eraH us') := e1
            have hget : (xs.map (encT ks)).getD i [] = encT ks (xs.getD i (zeroT ks)) := by
              rw [List.getD_eq_getElem?_getD, List.getD_eq_getElem?_getD, List.getElem?_map, List.getElem?_eq_getElem h2]
              rfl
            refine ⟨i < (xs.map (encT ks)).length ∧ off + t.size ≤ sz, ?_, by rw [List.length_map]; exact h2, h1⟩
            simp only [storeS, hsol, if_true, objT_map hob, eraO, e1', if_pos hsz]
            simp only [eraH, List.map_cons, List.map_nil, eraE, eraO, List.map_set, e2, hget]
          · cases h
        · cases h
      · cases h
    · cases h
  · cases h

theorem liftU_era : ∀ (us : List Ent) (l : List TEnt), liftU us = some l → us = eraH l
  | [], l, h => by cases h; rfl
  | ⟨n, v, .cells cs⟩ :: r, l, h => by
    simp only [liftU] at h
    split at h
    · rename_i l' hl
      cases h
      rw [liftU_era r l' hl]; rfl
    · cases h
  | ⟨n, v, .str s p⟩ :: r, l, h => by
    simp only [liftU] at h
    split at h
    · rename_i l' hl
      cases h
      rw [liftU_era r l' hl]; rfl
    · cases h
  | ⟨n, v, .row _ _ _ _⟩ :: r, l, h => by simp [liftU] at h
end Go.Sx
