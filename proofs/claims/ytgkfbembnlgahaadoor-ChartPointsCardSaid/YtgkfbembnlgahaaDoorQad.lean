/- Part 4 of the proof of the statement that the last part names; it asks for no condition of its own. Here: TxReg2. -/
import Derived.Test.YtgkfbembnlgahaaDoorQac
set_option linter.unusedVariables false
set_option linter.unusedSimpArgs false
set_option linter.unnecessarySimpa false
namespace Go.Sx
def KS {X : Type} (K : TKN X) (out : X) : KN := fun tm hp0 => ∃ hp, hp0 = eraH hp ∧ (K tm hp).run = some out

theorem run_ite {X : Type} {b : Bool} {x y : Tm X} {out : X} (h : (Tm.ite b x y).run = some out) : (b = true → x.run = some out) ∧ (b = false → y.run = some out) := by
  simp only [Tm.run] at h
  cases b
  · exact ⟨(fun h => by cases h), (fun _ => by simpa using h)⟩
  · exact ⟨(fun _ => by simpa using h), (fun h => by cases h)⟩
theorem run_iteW {X : Type} {want b : Bool} {x y : Tm X} {out : X} (h : (iteW want b x y).run = some out) : (b = want → x.run = some out) ∧ (b = (!want) → y.run = some out) := by
  cases want
  · have := run_ite (b := b) h
    exact ⟨this.2, this.1⟩
  · have := run_ite (b := b) h
    exact ⟨this.1, this.2⟩

theorem tvO_ok {X : Type} {c : TCtx} {o : Oper} {tm : List SVal} {hp : THp} {K : TKN X} {out : X} (h : (tvO c o tm hp K).run = some out) : evO (unC c) o tm (eraH hp) (KS K out) := by
  unfold tvO at h
  split at h
  · rename_i x ho
    split at h
    · rename_i b u hx
      split at h
      · rename_i s pos hob
        obtain ⟨h1, h2⟩ := run_ite h
        unfold evO evNext
        simp only [ho, hx, objT_map hob, eraO]
        intro more
        cases more with
        | true =>
          simp only [if_true]
          intro hp'
          refine ⟨_, ?_, h1 (by simpa using hp')⟩
          rw [put_era]; rfl
        | false =>
          simp only [Bool.false_eq_true, if_false]
          intro hp'
          exact ⟨_, rfl, h2 (by simpa using hp')⟩
      · simp [Tm.run] at h
    · simp [Tm.run] at h
  · rename_i hne
    obtain ⟨p, x, us, h1, h2, h3⟩ := tvX_ok h
    rw [force_eq] at h3
    have hn : evNext (evA tm) (findE (eraH hp)) o = none := by
      unfold evNext
      split
      · rename_i x ho
        exact (hne x ho).elim
      · rfl
    unfold evO
    simp only [hn, h1]
    exact ⟨h2, _, (puts_era us hp).symm, h3⟩

theorem evO_mono {c : Ctx} {o : Oper} {tm : List SVal} {hp : Hp} {K K' : KN} (hk : ∀ tm hp, K tm hp → K' tm hp) (h : evO c o tm hp K) : evO c o tm hp K' := by
  unfold evO at h ⊢
  split at h
  · rename_i f hf
    intro more
    have h1 := h more
    split at h1
    · exact fun hp => hk _ _ (h1 hp)
    · exact h1.elim
  · split at h
    · exact ⟨h.1, hk _ _ h.2⟩
    · exact h.elim

theorem tvL_ok {X : Type} {c : TCtx} {ops : List Oper} {K : TKN X} {out : X} : ∀ (l : List Oper) (tm : List SVal) (hp : THp), (tvL c ops l tm hp K).run = some out → evL (unC c) ops l tm (eraH hp) (KS K out)
  | [], tm, hp, h => ⟨hp, rfl, h⟩
  | o :: r, tm, hp, h => by
    have step : ∀ tm hp, (tvO c o tm hp fun tm hp => tvL c ops r tm hp K).run = some out → evO (unC c) o tm (eraH hp) fun tm hp => evL (unC c) ops r tm hp (KS K out) := by
      intro tm hp h
      refine evO_mono ?_ (tvO_ok h)
      rintro tm' hp' ⟨hp2, rfl, h2⟩
      exact tvL_ok r tm' hp2 h2
    simp only [tvL] at h
    simp only [evL]
    split at h
    · rename_i hg
      try simp only [hg]
      exact step _ _ h
    · rename_i j want hg
      try simp only [hg]
      split at h
      · rename_i t hj
        try simp only [hj]
        split at h
        · rename_i b hb
          try simp only [hb]
          obtain ⟨h1, h2⟩ := run_iteW h
          exact ⟨fun e => step _ _ (h1 e), fun e => tvL_ok r _ _ (h2 e)⟩
        · rename_i hb
          try simp only [hb]
          exact tvL_ok r _ _ h
        · simp [Tm.run] at h
      · simp [Tm.run] at h

theorem tvD_ok {X : Type} {c : TCtx} {ops : List Oper} {K : List SVal → THp → List TrE → Tm X} {out : X} : ∀ (l : List Oper) (tm : List SVal) (hp : THp) (tr : List TrE), (tvD c ops l tm hp tr K).run = some out →
    evD (unC c) ops l tm (eraH hp) tr fun tm hp0 tr => ∃ hp, hp0 = eraH hp ∧ (K tm hp tr).run = some out
  | [], tm, hp, tr, h => ⟨hp, rfl, h⟩
  | o :: r, tm, hp, tr, h => by
    have step0 : ∀ tm, (tvX c o tm hp fun x us => force (putD tm o.dst x) (putsT hp us) fun tm' hp' => tvD c ops r tm' hp' (tr ++ [trOn ops o tm (eraH hp) (eraH us)]) K) = tvX c o tm hp fun x us => tvD c ops r (putD tm o.dst x) (putsT hp us) (tr ++ [trOn ops o tm (eraH hp) (eraH us)]) K := by
      intro tm
      congr 1
      funext x us
      rw [force_eq]
    have step : ∀ tm, (tvX c o tm hp fun x us => tvD c ops r (putD tm o.dst x) (putsT hp us) (tr ++ [trOn ops o tm (eraH hp) (eraH us)]) K).run = some out →
        match evOp (unC c) (evA tm) (findE (eraH hp)) o with
        | some (p, x, us) => p ∧ evD (unC c) ops r (putD tm o.dst x) (putsE (eraH hp) us) (tr ++ [trOn ops o tm (eraH hp) us]) fun tm hp0 tr => ∃ hp, hp0 = eraH hp ∧ (K tm hp tr).run = some out
        | none => False := by
      intro tm h
      obtain ⟨p, x, us, h1, h2, h3⟩ := tvX_ok h
      simp only [h1]
      refine ⟨h2, ?_⟩
      rw [← puts_era]
      exact tvD_ok r _ _ _ h3
    simp only [tvD] at h
    simp only [evD]
    split at h
    · rename_i hg
      try simp only [hg]
      rw [step0] at h
      exact step _ h
    · rename_i j want hg
      try simp only [hg]
      split at h
      · rename_i t hj
        try simp only [hj]
        split at h
        · rename_i b hb
          try simp only [hb]
          obtain ⟨h1, h2⟩ := run_iteW h
          exact ⟨fun e => step _ (h1 e), fun e => tvD_ok r _ _ _ (h2 e)⟩
        · rename_i hb
          try simp only [hb]
          exact tvD_ok r _ _ _ h
        · simp [Tm.run] at h
      · simp [Tm.run] at h

theorem evD_mono {c : Ctx} {ops : List Oper} {K K' : List SVal → Hp → List TrE → Prop} (hk : ∀ tm hp tr, K tm hp tr → K' tm hp tr) : ∀ (l : List Oper) (tm : List SVal) (hp : Hp) (tr : List TrE), evD c ops l tm hp tr K → evD c ops l tm hp tr K'
  | [], tm, hp, tr, h => hk _ _ _ h
  | o :: r, tm, hp, tr, h => by
    simp only [evD] at h ⊢
    split at h
    · split at h
      · exact ⟨h.1, evD_mono hk r _ _ _ h.2⟩
      · exact h.elim
    · split at h
      · split at h
        · refine ⟨fun e => ?_, fun e => evD_mono hk r _ _ _ (h.2 e)⟩
          have := h.1 e
          split at this
          · exact ⟨this.1, evD_mono hk r _ _ _ this.2⟩
          · exact this.elim
        · exact evD_mono hk r _ _ _ h
        · exact h.elim
      · exact h.elim

theorem tvR_ok {X : Type} {c : TCtx} {ops : Array Oper} {draw : Bool} {tm : List SVal} {hp : THp} {K : TKN X} {out : X} (h : (tvR c ops draw tm hp K).run = some out) : evR (unC c) ops draw tm (eraH hp) (KS K out) := by
  unfold tvR at h
  unfold evR
  cases draw with
  | true =>
    simp only [if_true]
    refine evD_mono ?_ _ _ _ _ (tvD_ok _ _ _ _ h)
    rintro tm' hp0 tr ⟨hp', rfl, h'⟩
    obtain ⟨h1, h2⟩ := asks_some h'
    exact ⟨h1, hp', rfl, h2⟩
  | false =>
    simp only [Bool.false_eq_true, if_false]
    exact tvL_ok _ _ _ h
end Go.Sx
