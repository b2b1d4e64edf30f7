/- Part 7 of the proof of the statement that the last part names; it asks for no condition of its own. Here: TxLib, GenCh, TxLib2, TxLib3, TxLib4, GenAwA. -/
import Derived.Test.YtgkfbembnlgahaaDoorQae
import Derived.Test.YtgkfbembnlgahaaDoorQaf
import Derived.Below
import Derived.Lib.SplitLaws
import Derived.Shelf.Spec.TrailingZeros
set_option linter.unusedVariables false
set_option linter.unusedSimpArgs false
set_option maxRecDepth 100000
set_option linter.all false
namespace Go.Sx
open Go.RowKit
def GLw (gl : Glob) (w : World) : Prop := ∀ g o, gl g = some o → w.heap[g]? = some o
theorem adv_below {w w' : World} (h : Below w.heap.size w w') : Adv (fun k => k < w.heap.size) w w' := ⟨h.os, h.tape, h.output, h.size, fun k hk => h.block k hk⟩

def sArg : SigV → Value
  | ⟨.b k, x⟩ => k.enc x
  | _ => undef
def simpleP (P : Pat) : Bool := P.heap.isEmpty && P.slots.all (fun p => match p.2 with
  | .v => true
  | _ => false)
theorem args_simple {m : NMap} : ∀ (l : List (Nat × SP)) (args : List SVal) (i : Nat) (vs : List SigV), (l.all (fun p => match p.2 with
    | .v => true
    | _ => false)) = true → matchArgs i l args m = some vs → args = (vs.map sArg).map .v
  | [], [], i, vs, _, h => by simp only [matchArgs] at h; cases h; rfl
  | [], _ :: _, i, vs, _, h => by simp [matchArgs] at h
  | _ :: _, [], i, vs, _, h => by simp [matchArgs] at h
  | (t, p) :: l, x :: r, i, vs, hl, h => by
    simp only [List.all_cons, Bool.and_eq_true] at hl
    simp only [matchArgs] at h
    split at h
    · split at h
      · rename_i a b ha hb
        cases h
        have ih := args_simple l r _ b hl.2 hb
        cases p with
        | v =>
          cases x with
          | v y =>
            simp only [matchS] at ha
            split at ha
            · rename_i s hs
              cases ha
              obtain ⟨k, t', rfl, ht⟩ := sig_enc hs
              rw [ih]
              simp only [List.cons_append, List.nil_append, List.map_cons, sArg, ht]
            · cases ha
          | _ => simp [matchS] at ha
        | _ => simp at hl
      · cases h
    · cases h
theorem unCall_simple {P : Pat} (hP : simpleP P = true) {args : List SVal} {ents : List TEnt} {v : Vars P.vars} (h : unCall P args ents = some v) : ents = [] ∧ args = ((Tup.toL P.vars v).map sArg).map .v := by
  unfold simpleP at hP
  simp only [Bool.and_eq_true, List.isEmpty_iff] at hP
  unfold unCall at h
  split at h
  · rename_i a b ha hb
    rw [Tup.toL_ofL _ _ _ h]
    rw [hP.1] at hb
    cases ents with
    | nil =>
      simp only [matchEnts] at hb
      cases hb
      rw [List.append_nil]
      exact ⟨rfl, args_simple _ _ _ _ hP.2 ha⟩
    | cons e r => simp [matchEnts] at hb
  · cases h

section
variable {P : Program} {gl : Glob} {f : FuncId}
theorem adv_frame' {Fr RO : Nat → Prop} {ρ : Rho} {own : Foot} {hp : HpF} {w w' : World} (H : HRel Fr RO ρ own hp w) (h : Adv (fun k => k < w.heap.size) w w') : Adv (fun k => RO k ∨ Fr k) w w' :=
  h.mono (fun k hk => by
    rcases hk with hk | hk
    · exact (H.rofr k hk).2
    · exact H.fr k hk)

theorem validS_pure {S : TSum} (hs : ¬ Str gl) (hP : simpleP S.pat = true) (h : ∀ v o, S.F v = some o → (S.res o).2 = [] ∧ ∃ val, (∀ ρ, D ρ (S.res o).1 val) ∧ ∀ w, GLw gl w → Calls P f ((Tup.toL S.pat.vars v).map sArg).toArray w fun e w' => e = .returned val ∧ Below w.heap.size w w') : ValidS P gl f S := by
  intro args ents v o hu hF Fr RO ρ own w vals hgl H hρ hents hd
  obtain ⟨rfl, rfl⟩ := unCall_simple hP hu
  obtain ⟨hus, val, hv, hc⟩ := h v o hF
  have hvals : vals = ((Tup.toL S.pat.vars v).map sArg).toArray := by
    apply Array.toList_inj.1
    rw [DL.of_vals hd]
  subst hvals
  refine (hc w (fun g o hg => (hgl g o hg).2)).mono ?_
  rintro e w' ⟨rfl, hb⟩
  have ha := adv_below hb
  rw [hus]
  exact ⟨val, ρ, own, RO, rfl, H.adv ha, hv ρ, fun b hb => by simp [eraH] at hb, fun _ h => h, .loose (adv_frame' H ha) hs⟩

theorem validS_made {S : TSum} (hs : ¬ Str gl) (hP : simpleP S.pat = true) (h : ∀ v o, S.F v = some o → ∃ (et : Nat) (ks : List CK) (xs : List (rowT ks)), S.res o = (.own 0 0, [⟨0, 0, .row true et ks xs⟩]) ∧ ∃ (cs : List (List Value)), xs.map (encT ks) = cs.map (fun l => l.map Cell.v) ∧
      cs.length ≤ 9223372036854775807 ∧ (∀ x ∈ cs.flatten, x.oneCell' = true) ∧
      ∀ w, GLw gl w → Calls P f ((Tup.toL S.pat.vars v).map sArg).toArray w fun e w' => e = .returned (.slice (some ⟨w.heap.size, 0, none⟩) cs.length cs.length) ∧ w' = w.alloc (.cells cs.flatten.toArray et)) : ValidS P gl f S := by
  intro args ents v o hu hF Fr RO ρ own w vals hgl H hρ hents hd
  obtain ⟨rfl, rfl⟩ := unCall_simple hP hu
  obtain ⟨et, ks, xs, hres, cs, hcs, hn, hone, hc⟩ := h v o hF
  have hvals : vals = ((Tup.toL S.pat.vars v).map sArg).toArray := by
    apply Array.toList_inj.1
    rw [DL.of_vals hd]
  subst hvals
  refine (hc w (fun g o hg => (hgl g o hg).2)).mono ?_
  rintro e w' ⟨rfl, rfl⟩
  have hlen : ∀ l ∈ cs, l.length = ks.length := by
    intro l hl
    have : l.map Cell.v ∈ cs.map (fun l => l.map Cell.v) := List.mem_map_of_mem hl
    rw [← hcs] at this
    obtain ⟨x, _, hx⟩ := List.mem_map.1 this
    have := congrArg List.length hx
    rw [encT_length, List.length_map] at this
    exact this.symm
  have hfl : cs.flatten.length = cs.length * ks.length := by
    clear hone hc hcs hn
    induction cs with
    | nil => simp
    | cons x r ih =>
      simp only [List.flatten_cons, List.length_append, List.length_cons]
      rw [ih (fun l hl => hlen l (by simp [hl])), hlen x (by simp), Nat.succ_mul, Nat.add_comm]
  obtain ⟨ρ', own', h1, h2, h3⟩ := H.new (b := 0) (by simp [eraH, findE]) (.cells cs.flatten.toArray et) (.row true et ks.length (cs.map fun l => l.map .v)) (.slice (some ⟨w.heap.size, 0, none⟩) cs.length cs.length) (fun ρ' _ => by
    refine ⟨cs.flatten, ⟨by rw [List.length_map]; exact hfl, .inr ⟨w.heap.size, cs.length, cs.flatten.toArray, by rw [List.length_map], Nat.zero_le _, heap_alloc_new w _, by rw [List.length_map]; exact Nat.le_refl _, by simp only [maxLen]; omega, by simpa using hfl, by
      rw [List.length_map, ← hfl]; exact List.take_of_length_le (Nat.le_refl _)⟩⟩, plain_cells RO _ cs hone, fun k => by simp [Value.ownBlock, eq_comm], fun l hl => ?_⟩
    obtain ⟨l', hl', rfl⟩ := List.mem_map.1 hl
    rw [List.length_map]
    exact hlen l' hl')
  rw [hres]
  have e0 : eraH ([⟨0, 0, .row true et ks xs⟩] : List TEnt) = [⟨0, 0, .row true et ks.length (cs.map fun l => l.map .v)⟩] := by simp only [eraH, List.map_cons, List.map_nil, eraE, eraO, hcs]
  show ∃ v ρ' own' RO', _ ∧ HRel Fr RO' ρ' own' (putsF (findE (eraH [])) (eraH ([⟨0, 0, .row true et ks xs⟩] : List TEnt))) _ ∧ _
  rw [e0]
  exact ⟨_, ρ', own', RO, rfl, h1, h3, fun b hb => by simp [eraH] at hb, fun _ h => h, .loose (adv_frame' H (adv_alloc w _ _ (fun k h => h))) hs⟩
end
end Go.Sx
namespace Go.Tx
open Go Go.Sx Go.Proofs
structure Gs (gl : Glob) : Prop where
  utf8 : ∀ w, GLw gl w → Lib.Utf8Tabs 5 6 w
  maxlen : ∃ m, ∀ w, GLw gl w → w.cell? ⟨4, 0, none⟩ = some (.int .i64 m)
  db64 : ∀ w, GLw gl w → TabAt 8 Lib.deBruijn64tab w
  ne : ¬ Str gl
theorem hb_ {P : Program} {fn : Func} (f : Nat) (h : P.funcs[f]? = some fn) (h1 : (fn.name == "runtime.NumGoroutine") = false) (h2 : fn.body.isNone = false) : HasBody P f := ⟨fn, h, h1, h2⟩

noncomputable def strings_Split_s : TSum := TSum.one ⟨[.b .str, .b .str], 2, [(0, .v), (1, .v)], []⟩ (List ByteArray) (fun v => strings_Split v.1 v.2) (fun l => (.own 0 0, [⟨0, 0, .row true 9 [.b .str] l⟩]))
theorem strings_Split_v {gl : Glob} (hg : Gs gl) : ValidS Tryd.prog gl 34 strings_Split_s := by
  obtain ⟨m, hm⟩ := hg.maxlen
  refine validS_made hg.ne (by kernel_rfl) ?_
  rintro ⟨s, sep⟩ o ho
  have ho' : strings_Split s sep = some o := ho
  unfold strings_Split at ho'
  split at ho'
  · rename_i hc
    cases ho'
    refine ⟨9, [.b .str], _, rfl, (Lib.splitB sep 0 (Lib.countB s sep) s).map (fun x => [.string x]), ?_, ?_, ?_, fun w hw => ?_⟩
    · rw [List.map_map]; rfl
    · rw [List.length_map, Lib.splitB_all sep hc.2 0 _ s rfl]
      have := Lib.countB_le sep hc.2 s.size s (Nat.le_refl _)
      omega
    · intro x hx
      simp only [List.mem_flatten, List.mem_map] at hx
      obtain ⟨l, ⟨y, _, rfl⟩, hx⟩ := hx
      simp only [List.mem_singleton] at hx
      subst hx
      rfl
    · refine (Tryd.strings_Split s sep m w hc.1 (hm w hw) hc.2).mono ?_
      rintro e w' ⟨rfl, rfl⟩
      have hfl : ∀ l : List ByteArray, (l.map (fun x => [Value.string x])).flatten = l.map Value.string := by
        intro l
        induction l with
        | nil => rfl
        | cons x r ih => simp [ih]
      rw [List.length_map, Lib.splitB_all sep hc.2 0 _ s rfl, hfl]
      exact ⟨rfl, rfl⟩
  · cases ho'

noncomputable def utf8_DecodeLastRuneInString_s : TSum := TSum.one ⟨[.b .str], 1, [(0, .v)], []⟩ (Int × Int) (fun v => utf8_DecodeLastRuneInString v) (fun o => (.tup [.v (.int .i32 o.1), .v (.int .i64 o.2)], []))
theorem utf8_DecodeLastRuneInString_v {gl : Glob} (hg : Gs gl) : ValidS Tryd.prog gl 57 utf8_DecodeLastRuneInString_s := by
  refine validS_pure hg.ne (by kernel_rfl) ?_
  rintro s o ho
  have ho' : utf8_DecodeLastRuneInString s = some o := ho
  unfold utf8_DecodeLastRuneInString at ho'
  split at ho'
  · rename_i hc
    cases ho'
    exact ⟨rfl, _, fun ρ => ⟨#[_, _], rfl, rfl, rfl, trivial⟩, fun w hw => Tryd.utf8_DecodeLastRuneInString s w hc (hg.utf8 w hw)⟩
  · cases ho'
end Go.Tx

namespace Go.Tx
open Go Go.Sx
noncomputable def chart_cutLeft_b6 : ByteArray × ByteArray × Int × Int × Bool × ByteArray × Nat × ByteArray × Nat → Option ((ByteArray × ByteArray × Int × Int × Bool × ByteArray × Nat × ByteArray × Nat) ⊕ ((ByteArray × ByteArray × Int × Bool × ByteArray × Nat))) := fun
  | (s0, set1, i5, c6, in7, s111, p111, s117, p117) =>
  if (decide (p117 < s117.size)) = true then
   if in7 = true then
    some (.inl (s0, (set1, (i5, (c6, (true, (s111, (p111, (s117, (p117 + (Go.Utf8.decode s117 p117).2))))))))))
   else
    some (.inl (s0, (set1, (i5, (c6, ((decide (c6 = (((Go.Utf8.decode s117 p117).1 : Nat) : Int))), (s111, (p111, (s117, (p117 + (Go.Utf8.decode s117 p117).2))))))))))
  else
   some (.inr (s0, (set1, (i5, (in7, (s111, p111))))))
noncomputable def chart_cutLeft_b2 : ByteArray × ByteArray × ByteArray × Nat → Option ((ByteArray × ByteArray × ByteArray × Nat) ⊕ (Unit ⊕ ByteArray)) := fun
  | (s0, set1, s111, p111) =>
  if (decide (p111 < s111.size)) = true then
   ((Go.Sx.runLoop chart_cutLeft_b6 (s0, (set1, (((p111 : Nat) : Int), ((((Go.Utf8.decode s111 p111).1 : Nat) : Int), (false, (s111, ((p111 + (Go.Utf8.decode s111 p111).2), (set1, 0)))))))))).bind fun (r0_0, r0_1, r0_2, r0_3, r0_4, r0_5) =>
    if (!r0_3) = true then
     if ((decide ((0 : Int) ≤ r0_2)) && (decide (r0_2 ≤ ((r0_0.size : Nat) : Int)))) = true then
      some (.inr (.inr (ByteArray.extract r0_0 r0_2.toNat r0_0.size)))
     else
      none
    else
     some (.inl (r0_0, (r0_1, (r0_4, r0_5))))
  else
   some (.inr (.inl ()))
noncomputable def chart_cutLeft (s0 : ByteArray) (set1 : ByteArray) : Option (ByteArray) :=
  ((Go.Sx.runLoop chart_cutLeft_b2 (s0, (set1, (s0, 0))))).bind fun r0_0 =>
   match r0_0 with
   | .inl _ =>
    some (ByteArray.mk (List.toArray []))
   | .inr r2_0 =>
    some r2_0
noncomputable def chart_cutRight_b5 : ByteArray × ByteArray × Int × Int × Bool × ByteArray × Nat → Option ((ByteArray × ByteArray × Int × Int × Bool × ByteArray × Nat) ⊕ ((ByteArray × ByteArray × Int × Bool))) := fun
  | (s0, set1, c5, n6, in7, s119, p119) =>
  if (decide (p119 < s119.size)) = true then
   if in7 = true then
    some (.inl (s0, (set1, (c5, (n6, (true, (s119, (p119 + (Go.Utf8.decode s119 p119).2))))))))
   else
    some (.inl (s0, (set1, (c5, (n6, ((decide (c5 = (((Go.Utf8.decode s119 p119).1 : Nat) : Int))), (s119, (p119 + (Go.Utf8.decode s119 p119).2))))))))
  else
   some (.inr (s0, (set1, (n6, in7))))
noncomputable def chart_cutRight_b1 : ByteArray × ByteArray → Option ((ByteArray × ByteArray) ⊕ (ByteArray ⊕ ByteArray)) := fun
  | (s0, set1) =>
  if (decide (((s0.size : Nat) : Int) > (0 : Int))) = true then
   ((Go.Tx.utf8_DecodeLastRuneInString s0)).bind fun (r0_0, r0_1) =>
    ((Go.Sx.runLoop chart_cutRight_b5 (s0, (set1, (r0_0, (r0_1, (false, (set1, 0)))))))).bind fun (r1_0, r1_1, r1_2, r1_3) =>
     if (!r1_3) = true then
      some (.inr (.inr r1_0))
     else
      if ((decide ((0 : Int) ≤ (Go.IntKind.wrap .i64 (((r1_0.size : Nat) : Int) - r1_2)))) && (decide ((Go.IntKind.wrap .i64 (((r1_0.size : Nat) : Int) - r1_2)) ≤ ((r1_0.size : Nat) : Int)))) = true then
       some (.inl ((ByteArray.extract r1_0 0 (Go.IntKind.wrap .i64 (((r1_0.size : Nat) : Int) - r1_2)).toNat), r1_1))
      else
       none
  else
   some (.inr (.inl s0))
noncomputable def chart_cutRight (s0 : ByteArray) (set1 : ByteArray) : Option (ByteArray) :=
  ((Go.Sx.runLoop chart_cutRight_b1 (s0, set1))).bind fun r0_0 =>
   match r0_0 with
   | .inl r1_0 =>
    some r1_0
   | .inr r2_0 =>
    some r2_0
noncomputable def chart_made (s0 : ByteArray) (signs1 : ByteArray) (least2 : Int) (most3 : Int) : Option (Bool) :=
  if (decide (((s0.size : Nat) : Int) ≥ least2)) = true then
   if (decide (((s0.size : Nat) : Int) ≤ most3)) = true then
    ((Go.Tx.chart_cutLeft s0 signs1)).bind fun r0_0 =>
     ((Go.Tx.chart_cutRight r0_0 signs1)).bind fun r1_0 =>
      some (List.beq (ByteArray.toList r1_0) (ByteArray.toList (ByteArray.mk (List.toArray []))))
   else
    some false
  else
   some false
noncomputable def internal_strconv_lower (c0 : Int) : Option (Int) :=
  some (Go.IntKind.wrap .u8 (((BitVec.toNat (BitVec.or (BitVec.ofInt 8 c0) (BitVec.ofInt 8 (32 : Int)))) : Nat) : Int))
noncomputable def internal_strconv_ParseUint_b36 : Bool × ByteArray × Bool × Int × Int × Int × List (Int) → Option ((Bool × ByteArray × Bool × Int × Int × Int × List (Int)) ⊕ (Int ⊕ (ByteArray × Bool × Int))) := fun
  | (base08, s09, underscores12, n13, t100, t101, l199) =>
  if (decide (t101 < t100)) = true then
   if ((decide ((0 : Int) ≤ t101)) && (decide (t101 < ((l199.length : Nat) : Int)))) = true then
    if (decide (t101.toNat < l199.length)) = true then
     if (decide ((l199.getD t101.toNat (0 : Int)) = (95 : Int))) = true then
      if base08 = true then
       some (.inl (base08, (s09, (true, (n13, (t100, ((Go.IntKind.wrap .i64 (t101 + (1 : Int))), l199)))))))
      else
       if (decide ((48 : Int) ≤ (l199.getD t101.toNat (0 : Int)))) = true then
        if (decide ((l199.getD t101.toNat (0 : Int)) ≤ (57 : Int))) = true then
         if (decide ((Go.IntKind.wrap .u8 ((l199.getD t101.toNat (0 : Int)) - (48 : Int))) ≥ (16 : Int))) = true then
          some (.inr (.inl (0 : Int)))
         else
          if (decide (n13 ≥ (1152921504606846976 : Int))) = true then
           some (.inr (.inl (4294967295 : Int)))
          else
           if (decide ((Go.IntKind.wrap .u64 ((Go.IntKind.wrap .u64 (n13 * (16 : Int))) + (Go.IntKind.wrap .u64 (Go.IntKind.wrap .u8 ((l199.getD t101.toNat (0 : Int)) - (48 : Int)))))) < (Go.IntKind.wrap .u64 (n13 * (16 : Int))))) = true then
            some (.inr (.inl (4294967295 : Int)))
           else
            if (decide ((Go.IntKind.wrap .u64 ((Go.IntKind.wrap .u64 (n13 * (16 : Int))) + (Go.IntKind.wrap .u64 (Go.IntKind.wrap .u8 ((l199.getD t101.toNat (0 : Int)) - (48 : Int)))))) > (4294967295 : Int))) = true then
             some (.inr (.inl (4294967295 : Int)))
            else
             some (.inl (base08, (s09, (underscores12, ((Go.IntKind.wrap .u64 ((Go.IntKind.wrap .u64 (n13 * (16 : Int))) + (Go.IntKind.wrap .u64 (Go.IntKind.wrap .u8 ((l199.getD t101.toNat (0 : Int)) - (48 : Int)))))), (t100, ((Go.IntKind.wrap .i64 (t101 + (1 : Int))), l199)))))))
        else
         ((Go.Tx.internal_strconv_lower (l199.getD t101.toNat (0 : Int)))).bind fun r0_0 =>
          if (decide ((97 : Int) ≤ r0_0)) = true then
           ((Go.Tx.internal_strconv_lower (l199.getD t101.toNat (0 : Int)))).bind fun r1_0 =>
            if (decide (r1_0 ≤ (122 : Int))) = true then
             ((Go.Tx.internal_strconv_lower (l199.getD t101.toNat (0 : Int)))).bind fun r2_0 =>
              if (decide ((Go.IntKind.wrap .u8 ((Go.IntKind.wrap .u8 (r2_0 - (97 : Int))) + (10 : Int))) ≥ (16 : Int))) = true then
               some (.inr (.inl (0 : Int)))
              else
               if (decide (n13 ≥ (1152921504606846976 : Int))) = true then
                some (.inr (.inl (4294967295 : Int)))
               else
                if (decide ((Go.IntKind.wrap .u64 ((Go.IntKind.wrap .u64 (n13 * (16 : Int))) + (Go.IntKind.wrap .u64 (Go.IntKind.wrap .u8 ((Go.IntKind.wrap .u8 (r2_0 - (97 : Int))) + (10 : Int)))))) < (Go.IntKind.wrap .u64 (n13 * (16 : Int))))) = true then
                 some (.inr (.inl (4294967295 : Int)))
                else
                 if (decide ((Go.IntKind.wrap .u64 ((Go.IntKind.wrap .u64 (n13 * (16 : Int))) + (Go.IntKind.wrap .u64 (Go.IntKind.wrap .u8 ((Go.IntKind.wrap .u8 (r2_0 - (97 : Int))) + (10 : Int)))))) > (4294967295 : Int))) = true then
                  some (.inr (.inl (4294967295 : Int)))
                 else
                  some (.inl (base08, (s09, (underscores12, ((Go.IntKind.wrap .u64 ((Go.IntKind.wrap .u64 (n13 * (16 : Int))) + (Go.IntKind.wrap .u64 (Go.IntKind.wrap .u8 ((Go.IntKind.wrap .u8 (r2_0 - (97 : Int))) + (10 : Int)))))), (t100, ((Go.IntKind.wrap .i64 (t101 + (1 : Int))), l199)))))))
            else
             some (.inr (.inl (0 : Int)))
          else
           some (.inr (.inl (0 : Int)))
       else
        ((Go.Tx.internal_strconv_lower (l199.getD t101.toNat (0 : Int)))).bind fun r3_0 =>
         if (decide ((97 : Int) ≤ r3_0)) = true then
          ((Go.Tx.internal_strconv_lower (l199.getD t101.toNat (0 : Int)))).bind fun r4_0 =>
           if (decide (r4_0 ≤ (122 : Int))) = true then
            ((Go.Tx.internal_strconv_lower (l199.getD t101.toNat (0 : Int)))).bind fun r5_0 =>
             if (decide ((Go.IntKind.wrap .u8 ((Go.IntKind.wrap .u8 (r5_0 - (97 : Int))) + (10 : Int))) ≥ (16 : Int))) = true then
              some (.inr (.inl (0 : Int)))
             else
              if (decide (n13 ≥ (1152921504606846976 : Int))) = true then
               some (.inr (.inl (4294967295 : Int)))
              else
               if (decide ((Go.IntKind.wrap .u64 ((Go.IntKind.wrap .u64 (n13 * (16 : Int))) + (Go.IntKind.wrap .u64 (Go.IntKind.wrap .u8 ((Go.IntKind.wrap .u8 (r5_0 - (97 : Int))) + (10 : Int)))))) < (Go.IntKind.wrap .u64 (n13 * (16 : Int))))) = true then
                some (.inr (.inl (4294967295 : Int)))
               else
                if (decide ((Go.IntKind.wrap .u64 ((Go.IntKind.wrap .u64 (n13 * (16 : Int))) + (Go.IntKind.wrap .u64 (Go.IntKind.wrap .u8 ((Go.IntKind.wrap .u8 (r5_0 - (97 : Int))) + (10 : Int)))))) > (4294967295 : Int))) = true then
                 some (.inr (.inl (4294967295 : Int)))
                else
                 some (.inl (base08, (s09, (underscores12, ((Go.IntKind.wrap .u64 ((Go.IntKind.wrap .u64 (n13 * (16 : Int))) + (Go.IntKind.wrap .u64 (Go.IntKind.wrap .u8 ((Go.IntKind.wrap .u8 (r5_0 - (97 : Int))) + (10 : Int)))))), (t100, ((Go.IntKind.wrap .i64 (t101 + (1 : Int))), l199)))))))
           else
            some (.inr (.inl (0 : Int)))
         else
          some (.inr (.inl (0 : Int)))
     else
      if (decide ((48 : Int) ≤ (l199.getD t101.toNat (0 : Int)))) = true then
       if (decide ((l199.getD t101.toNat (0 : Int)) ≤ (57 : Int))) = true then
        if (decide ((Go.IntKind.wrap .u8 ((l199.getD t101.toNat (0 : Int)) - (48 : Int))) ≥ (16 : Int))) = true then
         some (.inr (.inl (0 : Int)))
        else
         if (decide (n13 ≥ (1152921504606846976 : Int))) = true then
          some (.inr (.inl (4294967295 : Int)))
         else
          if (decide ((Go.IntKind.wrap .u64 ((Go.IntKind.wrap .u64 (n13 * (16 : Int))) + (Go.IntKind.wrap .u64 (Go.IntKind.wrap .u8 ((l199.getD t101.toNat (0 : Int)) - (48 : Int)))))) < (Go.IntKind.wrap .u64 (n13 * (16 : Int))))) = true then
           some (.inr (.inl (4294967295 : Int)))
          else
           if (decide ((Go.IntKind.wrap .u64 ((Go.IntKind.wrap .u64 (n13 * (16 : Int))) + (Go.IntKind.wrap .u64 (Go.IntKind.wrap .u8 ((l199.getD t101.toNat (0 : Int)) - (48 : Int)))))) > (4294967295 : Int))) = true then
            some (.inr (.inl (4294967295 : Int)))
           else
            some (.inl (base08, (s09, (underscores12, ((Go.IntKind.wrap .u64 ((Go.IntKind.wrap .u64 (n13 * (16 : Int))) + (Go.IntKind.wrap .u64 (Go.IntKind.wrap .u8 ((l199.getD t101.toNat (0 : Int)) - (48 : Int)))))), (t100, ((Go.IntKind.wrap .i64 (t101 + (1 : Int))), l199)))))))
       else
        ((Go.Tx.internal_strconv_lower (l199.getD t101.toNat (0 : Int)))).bind fun r6_0 =>
         if (decide ((97 : Int) ≤ r6_0)) = true then
          ((Go.Tx.internal_strconv_lower (l199.getD t101.toNat (0 : Int)))).bind fun r7_0 =>
           if (decide (r7_0 ≤ (122 : Int))) = true then
            ((Go.Tx.internal_strconv_lower (l199.getD t101.toNat (0 : Int)))).bind fun r8_0 =>
             if (decide ((Go.IntKind.wrap .u8 ((Go.IntKind.wrap .u8 (r8_0 - (97 : Int))) + (10 : Int))) ≥ (16 : Int))) = true then
              some (.inr (.inl (0 : Int)))
             else
              if (decide (n13 ≥ (1152921504606846976 : Int))) = true then
               some (.inr (.inl (4294967295 : Int)))
              else
               if (decide ((Go.IntKind.wrap .u64 ((Go.IntKind.wrap .u64 (n13 * (16 : Int))) + (Go.IntKind.wrap .u64 (Go.IntKind.wrap .u8 ((Go.IntKind.wrap .u8 (r8_0 - (97 : Int))) + (10 : Int)))))) < (Go.IntKind.wrap .u64 (n13 * (16 : Int))))) = true then
                some (.inr (.inl (4294967295 : Int)))
               else
                if (decide ((Go.IntKind.wrap .u64 ((Go.IntKind.wrap .u64 (n13 * (16 : Int))) + (Go.IntKind.wrap .u64 (Go.IntKind.wrap .u8 ((Go.IntKind.wrap .u8 (r8_0 - (97 : Int))) + (10 : Int)))))) > (4294967295 : Int))) = true then
                 some (.inr (.inl (4294967295 : Int)))
                else
                 some (.inl (base08, (s09, (underscores12, ((Go.IntKind.wrap .u64 ((Go.IntKind.wrap .u64 (n13 * (16 : Int))) + (Go.IntKind.wrap .u64 (Go.IntKind.wrap .u8 ((Go.IntKind.wrap .u8 (r8_0 - (97 : Int))) + (10 : Int)))))), (t100, ((Go.IntKind.wrap .i64 (t101 + (1 : Int))), l199)))))))
           else
            some (.inr (.inl (0 : Int)))
         else
          some (.inr (.inl (0 : Int)))
      else
       ((Go.Tx.internal_strconv_lower (l199.getD t101.toNat (0 : Int)))).bind fun r9_0 =>
        if (decide ((97 : Int) ≤ r9_0)) = true then
         ((Go.Tx.internal_strconv_lower (l199.getD t101.toNat (0 : Int)))).bind fun r10_0 =>
          if (decide (r10_0 ≤ (122 : Int))) = true then
           ((Go.Tx.internal_strconv_lower (l199.getD t101.toNat (0 : Int)))).bind fun r11_0 =>
            if (decide ((Go.IntKind.wrap .u8 ((Go.IntKind.wrap .u8 (r11_0 - (97 : Int))) + (10 : Int))) ≥ (16 : Int))) = true then
             some (.inr (.inl (0 : Int)))
            else
             if (decide (n13 ≥ (1152921504606846976 : Int))) = true then
              some (.inr (.inl (4294967295 : Int)))
             else
              if (decide ((Go.IntKind.wrap .u64 ((Go.IntKind.wrap .u64 (n13 * (16 : Int))) + (Go.IntKind.wrap .u64 (Go.IntKind.wrap .u8 ((Go.IntKind.wrap .u8 (r11_0 - (97 : Int))) + (10 : Int)))))) < (Go.IntKind.wrap .u64 (n13 * (16 : Int))))) = true then
               some (.inr (.inl (4294967295 : Int)))
              else
               if (decide ((Go.IntKind.wrap .u64 ((Go.IntKind.wrap .u64 (n13 * (16 : Int))) + (Go.IntKind.wrap .u64 (Go.IntKind.wrap .u8 ((Go.IntKind.wrap .u8 (r11_0 - (97 : Int))) + (10 : Int)))))) > (4294967295 : Int))) = true then
                some (.inr (.inl (4294967295 : Int)))
               else
                some (.inl (base08, (s09, (underscores12, ((Go.IntKind.wrap .u64 ((Go.IntKind.wrap .u64 (n13 * (16 : Int))) + (Go.IntKind.wrap .u64 (Go.IntKind.wrap .u8 ((Go.IntKind.wrap .u8 (r11_0 - (97 : Int))) + (10 : Int)))))), (t100, ((Go.IntKind.wrap .i64 (t101 + (1 : Int))), l199)))))))
          else
           some (.inr (.inl (0 : Int)))
        else
         some (.inr (.inl (0 : Int)))
    else
     none
   else
    none
  else
   some (.inr (.inr (s09, (underscores12, n13))))
noncomputable def internal_strconv_ParseUint (s0 : ByteArray) : Option (Int ⊕ Int) :=
  if (List.beq (ByteArray.toList s0) (ByteArray.toList (ByteArray.mk (List.toArray [])))) = true then
   some (.inl (0 : Int))
  else
   if (decide (s0.size ≤ 9223372036854775807)) = true then
    ((Go.Sx.runLoop internal_strconv_ParseUint_b36 (false, (s0, (false, ((0 : Int), ((((List.map (fun (x4 : UInt8) => ((x4.toNat : Nat) : Int)) s0.data.toList).length : Nat) : Int), ((0 : Int), (List.map (fun (x4 : UInt8) => ((x4.toNat : Nat) : Int)) s0.data.toList))))))))).bind fun r0_0 =>
     match r0_0 with
     | .inl r1_0 =>
      some (.inl r1_0)
     | .inr (r2_0, r2_1, r2_2) =>
      if r2_1 = true then
       none
      else
       some (.inr r2_2)
   else
    none
noncomputable def strconv_ParseUint (s0 : ByteArray) : Option (Int) :=
  ((Go.Tx.internal_strconv_ParseUint s0)).bind fun r0_0 =>
   match r0_0 with
   | .inl r1_0 =>
    none
   | .inr r2_0 =>
    some r2_0
noncomputable def chart_point (s0 : ByteArray) : Option ((Int × Bool)) :=
  ((Go.Tx.chart_made s0 (ByteArray.mk (List.toArray [(48 : UInt8), (49 : UInt8), (50 : UInt8), (51 : UInt8), (52 : UInt8), (53 : UInt8), (54 : UInt8), (55 : UInt8), (56 : UInt8), (57 : UInt8), (65 : UInt8), (66 : UInt8), (67 : UInt8), (68 : UInt8), (69 : UInt8), (70 : UInt8)])) (4 : Int) (6 : Int))).bind fun r0_0 =>
   if (!r0_0) = true then
    some ((0 : Int), false)
   else
    if (decide (((s0.size : Nat) : Int) > (4 : Int))) = true then
     if (decide ((0 : Int) < ((s0.size : Nat) : Int))) = true then
      if (decide ((((s0.data.toList.getD 0 (0 : UInt8)).toNat : Nat) : Int) = (48 : Int))) = true then
       some ((0 : Int), false)
      else
       ((Go.Tx.strconv_ParseUint s0)).bind fun r1_0 =>
        some ((Go.IntKind.wrap .u32 r1_0), (decide (r1_0 ≤ (1114111 : Int))))
     else
      none
    else
     ((Go.Tx.strconv_ParseUint s0)).bind fun r2_0 =>
      some ((Go.IntKind.wrap .u32 r2_0), (decide (r2_0 ≤ (1114111 : Int))))
noncomputable def chart_span (a0 : ByteArray) (b1 : ByteArray) : Option ((Bool × Int × Int)) :=
  ((Go.Tx.chart_point a0)).bind fun (r0_0, r0_1) =>
   ((Go.Tx.chart_point b1)).bind fun (r1_0, r1_1) =>
    if r0_1 = true then
     if r1_1 = true then
      some ((decide (r0_0 ≤ r1_0)), (r0_0, r1_0))
     else
      some (false, (r0_0, r1_0))
    else
     some (false, (r0_0, r1_0))
noncomputable def chart_Classes_1_1 (x0_0 : Int) (x0_1 : Int) (x0_2 : Int) : Option ((Int × Int)) :=
  some (x0_0, x0_1)
noncomputable def chart_behind_Weight (s1_0 : Int) (s1_1 : Int) (l0 : List (Int × Int × Int)) : Option ((Bool × List (Int × Int × Int))) :=
  if (decide (((l0.length : Nat) : Int) = (0 : Int))) = true then
   some (true, l0)
  else
   if ((decide ((0 : Int) ≤ (Go.IntKind.wrap .i64 (((l0.length : Nat) : Int) - (1 : Int))))) && (decide ((Go.IntKind.wrap .i64 (((l0.length : Nat) : Int) - (1 : Int))) < ((l0.length : Nat) : Int)))) = true then
    if (decide ((Go.IntKind.wrap .i64 (((l0.length : Nat) : Int) - (1 : Int))).toNat < l0.length)) = true then
     ((Go.Tx.chart_Classes_1_1 (l0.getD (Go.IntKind.wrap .i64 (((l0.length : Nat) : Int) - (1 : Int))).toNat ((0 : Int), ((0 : Int), (0 : Int)))).1 (l0.getD (Go.IntKind.wrap .i64 (((l0.length : Nat) : Int) - (1 : Int))).toNat ((0 : Int), ((0 : Int), (0 : Int)))).2.1 (l0.getD (Go.IntKind.wrap .i64 (((l0.length : Nat) : Int) - (1 : Int))).toNat ((0 : Int), ((0 : Int), (0 : Int)))).2.2)).bind fun (r0_0, r0_1) =>
      some ((decide (r0_1 < s1_0)), l0)
    else
     none
   else
    none
noncomputable def chart_spanned_Weight (count1 : Int) (l0 : List (ByteArray)) (l1 : List (Int × Int × Int)) : Option ((Bool × Int × Int × List (ByteArray) × List (Int × Int × Int))) :=
  if (((l0.length : Nat) : Int) != count1) = true then
   some (false, ((0 : Int), ((0 : Int), (l0, l1))))
  else
   if (decide ((0 : Int) < ((l0.length : Nat) : Int))) = true then
    if (decide (0 < l0.length)) = true then
     if (decide ((1 : Int) < ((l0.length : Nat) : Int))) = true then
      if (decide (1 < l0.length)) = true then
       ((Go.Tx.chart_span (l0.getD 0 ByteArray.empty) (l0.getD 1 ByteArray.empty))).bind fun (r0_0, r0_1, r0_2) =>
        if r0_0 = true then
         ((Go.Tx.chart_behind_Weight r0_1 r0_2 l1)).bind fun (r1_0, r1_1) =>
          some (r1_0, (r0_1, (r0_2, (l0, r1_1))))
        else
         some (false, (r0_1, (r0_2, (l0, l1))))
      else
       none
     else
      none
    else
     none
   else
    none
noncomputable def internal_strconv_Atoi_b10 : ByteArray × Int × Int × Int × List (Int) → Option ((ByteArray × Int × Int × Int × List (Int)) ⊕ (Int ⊕ (ByteArray × Int))) := fun
  | (s05, n6, t48, t49, l147) =>
  if (decide (t49 < t48)) = true then
   if ((decide ((0 : Int) ≤ t49)) && (decide (t49 < ((l147.length : Nat) : Int)))) = true then
    if (decide (t49.toNat < l147.length)) = true then
     if (decide ((Go.IntKind.wrap .u8 ((l147.getD t49.toNat (0 : Int)) - (48 : Int))) > (9 : Int))) = true then
      some (.inr (.inl (0 : Int)))
     else
      some (.inl (s05, ((Go.IntKind.wrap .i64 ((Go.IntKind.wrap .i64 (n6 * (10 : Int))) + (Go.IntKind.wrap .i64 (Go.IntKind.wrap .u8 ((l147.getD t49.toNat (0 : Int)) - (48 : Int)))))), (t48, ((Go.IntKind.wrap .i64 (t49 + (1 : Int))), l147)))))
    else
     none
   else
    none
  else
   some (.inr (.inr (s05, n6)))
noncomputable def internal_strconv_Atoi (s0 : ByteArray) : Option (Int ⊕ Int) :=
  if (decide ((0 : Int) < ((s0.size : Nat) : Int))) = true then
   if (decide (((s0.size : Nat) : Int) < (19 : Int))) = true then
    if (decide ((0 : Int) < ((s0.size : Nat) : Int))) = true then
     if (decide ((((s0.data.toList.getD 0 (0 : UInt8)).toNat : Nat) : Int) = (45 : Int))) = true then
      if (decide ((1 : Int) ≤ ((s0.size : Nat) : Int))) = true then
       if (decide ((((ByteArray.extract s0 1 s0.size).size : Nat) : Int) < (1 : Int))) = true then
        some (.inl (0 : Int))
       else
        if (decide ((ByteArray.extract s0 1 s0.size).size ≤ 9223372036854775807)) = true then
         ((Go.Sx.runLoop internal_strconv_Atoi_b10 (s0, ((0 : Int), ((((List.map (fun (x4 : UInt8) => ((x4.toNat : Nat) : Int)) (Array.append (Array.append (Array.extract Array.empty 0 0) (Array.extract s0.data 1 (1 + (s0.size - 1)))) (Array.extract Array.empty (0 + (if ((s0.size - 1) ≤ ((Array.size s0.data) - 1)) then (s0.size - 1) else ((Array.size s0.data) - 1))) 0)).toList).length : Nat) : Int), ((0 : Int), (List.map (fun (x4 : UInt8) => ((x4.toNat : Nat) : Int)) (Array.append (Array.append (Array.extract Array.empty 0 0) (Array.extract s0.data 1 (1 + (s0.size - 1)))) (Array.extract Array.empty (0 + (if ((s0.size - 1) ≤ ((Array.size s0.data) - 1)) then (s0.size - 1) else ((Array.size s0.data) - 1))) 0)).toList))))))).bind fun r0_0 =>
          match r0_0 with
          | .inl r1_0 =>
           some (.inl r1_0)
          | .inr (r2_0, r2_1) =>
           if (decide ((0 : Int) < ((r2_0.size : Nat) : Int))) = true then
            if (decide ((((r2_0.data.toList.getD 0 (0 : UInt8)).toNat : Nat) : Int) = (45 : Int))) = true then
             some (.inr (Go.IntKind.wrap .i64 ((0 : Int) - r2_1)))
            else
             some (.inr r2_1)
           else
            none
        else
         none
      else
       none
     else
      if (decide ((0 : Int) < ((s0.size : Nat) : Int))) = true then
       if (decide ((((s0.data.toList.getD 0 (0 : UInt8)).toNat : Nat) : Int) = (43 : Int))) = true then
        if (decide ((1 : Int) ≤ ((s0.size : Nat) : Int))) = true then
         if (decide ((((ByteArray.extract s0 1 s0.size).size : Nat) : Int) < (1 : Int))) = true then
          some (.inl (0 : Int))
         else
          if (decide ((ByteArray.extract s0 1 s0.size).size ≤ 9223372036854775807)) = true then
           ((Go.Sx.runLoop internal_strconv_Atoi_b10 (s0, ((0 : Int), ((((List.map (fun (x4 : UInt8) => ((x4.toNat : Nat) : Int)) (Array.append (Array.append (Array.extract Array.empty 0 0) (Array.extract s0.data 1 (1 + (s0.size - 1)))) (Array.extract Array.empty (0 + (if ((s0.size - 1) ≤ ((Array.size s0.data) - 1)) then (s0.size - 1) else ((Array.size s0.data) - 1))) 0)).toList).length : Nat) : Int), ((0 : Int), (List.map (fun (x4 : UInt8) => ((x4.toNat : Nat) : Int)) (Array.append (Array.append (Array.extract Array.empty 0 0) (Array.extract s0.data 1 (1 + (s0.size - 1)))) (Array.extract Array.empty (0 + (if ((s0.size - 1) ≤ ((Array.size s0.data) - 1)) then (s0.size - 1) else ((Array.size s0.data) - 1))) 0)).toList))))))).bind fun r3_0 =>
            match r3_0 with
            | .inl r4_0 =>
             some (.inl r4_0)
            | .inr (r5_0, r5_1) =>
             if (decide ((0 : Int) < ((r5_0.size : Nat) : Int))) = true then
              if (decide ((((r5_0.data.toList.getD 0 (0 : UInt8)).toNat : Nat) : Int) = (45 : Int))) = true then
               some (.inr (Go.IntKind.wrap .i64 ((0 : Int) - r5_1)))
              else
               some (.inr r5_1)
             else
              none
          else
           none
        else
         none
       else
        if (decide (s0.size ≤ 9223372036854775807)) = true then
         ((Go.Sx.runLoop internal_strconv_Atoi_b10 (s0, ((0 : Int), ((((List.map (fun (x4 : UInt8) => ((x4.toNat : Nat) : Int)) s0.data.toList).length : Nat) : Int), ((0 : Int), (List.map (fun (x4 : UInt8) => ((x4.toNat : Nat) : Int)) s0.data.toList))))))).bind fun r6_0 =>
          match r6_0 with
          | .inl r7_0 =>
           some (.inl r7_0)
          | .inr (r8_0, r8_1) =>
           if (decide ((0 : Int) < ((r8_0.size : Nat) : Int))) = true then
            if (decide ((((r8_0.data.toList.getD 0 (0 : UInt8)).toNat : Nat) : Int) = (45 : Int))) = true then
             some (.inr (Go.IntKind.wrap .i64 ((0 : Int) - r8_1)))
            else
             some (.inr r8_1)
           else
            none
        else
         none
      else
       none
    else
     none
   else
    none
  else
   none
noncomputable def strconv_Atoi (s0 : ByteArray) : Option (Int) :=
  ((Go.Tx.internal_strconv_Atoi s0)).bind fun r0_0 =>
   match r0_0 with
   | .inl r1_0 =>
    none
   | .inr r2_0 =>
    some r2_0
noncomputable def chart_Classes_1 (l0 : List (ByteArray)) (l1 : List (Int × Int × Int)) : Option ((Bool × Int × Int × Int × List (ByteArray) × List (Int × Int × Int))) :=
  ((Go.Tx.chart_spanned_Weight (3 : Int) l0 l1)).bind fun (r0_0, r0_1, r0_2, r0_3, r0_4) =>
   if (!r0_0) = true then
    some (false, ((0 : Int), ((0 : Int), ((0 : Int), (r0_3, r0_4)))))
   else
    if (decide ((2 : Int) < ((r0_3.length : Nat) : Int))) = true then
     if (decide (2 < r0_3.length)) = true then
      ((Go.Tx.chart_made (r0_3.getD 2 ByteArray.empty) (ByteArray.extract (ByteArray.mk (List.toArray [(48 : UInt8), (49 : UInt8), (50 : UInt8), (51 : UInt8), (52 : UInt8), (53 : UInt8), (54 : UInt8), (55 : UInt8), (56 : UInt8), (57 : UInt8), (65 : UInt8), (66 : UInt8), (67 : UInt8), (68 : UInt8), (69 : UInt8), (70 : UInt8)])) 0 10) (1 : Int) (3 : Int))).bind fun r1_0 =>
       if (!r1_0) = true then
        some (false, ((0 : Int), ((0 : Int), ((0 : Int), (r0_3, r0_4)))))
       else
        if (decide ((2 : Int) < ((r0_3.length : Nat) : Int))) = true then
         if (decide (2 < r0_3.length)) = true then
          if (decide ((0 : Int) < (((r0_3.getD 2 ByteArray.empty).size : Nat) : Int))) = true then
           if (decide (((((r0_3.getD 2 ByteArray.empty).data.toList.getD 0 (0 : UInt8)).toNat : Nat) : Int) = (48 : Int))) = true then
            some (false, ((0 : Int), ((0 : Int), ((0 : Int), (r0_3, r0_4)))))
           else
            if (decide ((2 : Int) < ((r0_3.length : Nat) : Int))) = true then
             if (decide (2 < r0_3.length)) = true then
              ((Go.Tx.strconv_Atoi (r0_3.getD 2 ByteArray.empty))).bind fun r2_0 =>
               some ((decide (r2_0 ≤ (254 : Int))), (r0_1, (r0_2, ((Go.IntKind.wrap .u32 r2_0), (r0_3, r0_4)))))
             else
              none
            else
             none
          else
           none
         else
          none
        else
         none
     else
      none
    else
     none
noncomputable def chart_read_Weight_b5 : Int × Int × List (ByteArray) × List (Int × Int × Int) → Option ((Int × Int × List (ByteArray) × List (Int × Int × Int)) ⊕ ((List (Int × Int × Int)) ⊕ (Int × Int))) := fun
  | (t16, t17, l1150, l5000) =>
  if (decide (t17 < t16)) = true then
   if ((decide ((0 : Int) ≤ t17)) && (decide (t17 < ((l1150.length : Nat) : Int)))) = true then
    if (decide (t17.toNat < l1150.length)) = true then
     ((Go.Tx.strings_Split (l1150.getD t17.toNat ByteArray.empty) (ByteArray.mk (List.toArray [(32 : UInt8)])))).bind fun r0_0 =>
      ((Go.Tx.chart_Classes_1 r0_0 l5000)).bind fun (r1_0, r1_1, r1_2, r1_3, r1_4, r1_5) =>
       if (!r1_0) = true then
        some (.inr (.inr ((3 : Int), (Go.IntKind.wrap .i64 (t17 + (1 : Int))))))
       else
        if (decide (((r1_5.length + [(r1_1, (r1_2, r1_3))].length) * 12) ≤ 140737488355328)) = true then
         some (.inl (t16, ((Go.IntKind.wrap .i64 (t17 + (1 : Int))), (l1150, (r1_5 ++ [(r1_1, (r1_2, r1_3))])))))
        else
         none
    else
     none
   else
    none
  else
   some (.inr (.inl l5000))
noncomputable def chart_read_Weight (s0 : ByteArray) : Option ((Int × Int × List (Int × Int × Int))) :=
  if (List.beq (ByteArray.toList s0) (ByteArray.toList (ByteArray.mk (List.toArray [])))) = true then
   some ((0 : Int), ((0 : Int), []))
  else
   ((Go.Tx.strings_Split s0 (ByteArray.mk (List.toArray [(10 : UInt8)])))).bind fun r0_0 =>
    ((Go.Sx.runLoop chart_read_Weight_b5 (((r0_0.length : Nat) : Int), ((0 : Int), (r0_0, []))))).bind fun r1_0 =>
     match r1_0 with
     | .inl r2_0 =>
      some ((0 : Int), ((0 : Int), r2_0))
     | .inr (r3_0, r3_1) =>
      some (r3_0, (r3_1, []))
noncomputable def chart_Classes (s0 : ByteArray) : Option ((Int × Int × List (Int × Int × Int))) :=
  ((Go.Tx.chart_read_Weight s0)).bind fun (r0_0, r0_1, r0_2) =>
   some (r0_0, (r0_1, r0_2))
noncomputable def chart_points_b3 : Int × Int × List (ByteArray) × List (Int) → Option ((Int × Int × List (ByteArray) × List (Int)) ⊕ ((Bool × List (ByteArray)) ⊕ (List (ByteArray) × List (Int)))) := fun
  | (t10, t11, l0, l5000) =>
  if (decide (t11 < t10)) = true then
   if ((decide ((0 : Int) ≤ t11)) && (decide (t11 < ((l0.length : Nat) : Int)))) = true then
    if (decide (t11.toNat < l0.length)) = true then
     ((Go.Tx.chart_point (l0.getD t11.toNat ByteArray.empty))).bind fun (r0_0, r0_1) =>
      if (!r0_1) = true then
       some (.inr (.inl (false, l0)))
      else
       if (decide (((l5000.length + [r0_0].length) * 4) ≤ 140737488355328)) = true then
        some (.inl (t10, ((Go.IntKind.wrap .i64 (t11 + (1 : Int))), (l0, (l5000 ++ [r0_0])))))
       else
        none
    else
     none
   else
    none
  else
   some (.inr (.inr (l0, l5000)))
noncomputable def chart_points (l0 : List (ByteArray)) : Option ((Bool × List (ByteArray) × List (Int))) :=
  ((Go.Sx.runLoop chart_points_b3 (((l0.length : Nat) : Int), ((0 : Int), (l0, []))))).bind fun r0_0 =>
   match r0_0 with
   | .inl (r1_0, r1_1) =>
    some (r1_0, (r1_1, []))
   | .inr (r2_0, r2_1) =>
    if (decide (((r2_0.length : Nat) : Int) > (0 : Int))) = true then
     some ((decide (((r2_0.length : Nat) : Int) ≤ (3 : Int))), (r2_0, r2_1))
    else
     some (false, (r2_0, r2_1))
noncomputable def chart_Decomps_1 (l0 : List (ByteArray)) (l1 : List (Int × List (Int) × Bool × Bool)) : Option ((Bool × Int × Bool × Bool × List (ByteArray) × List (Int × List (Int) × Bool × Bool) × List (Int))) :=
  if (decide (((l0.length : Nat) : Int) < (3 : Int))) = true then
   some (false, ((0 : Int), (false, (false, (l0, (l1, []))))))
  else
   if (decide ((1 : Int) < ((l0.length : Nat) : Int))) = true then
    if (decide (1 < l0.length)) = true then
     ((Go.Tx.chart_made (l0.getD 1 ByteArray.empty) (ByteArray.mk (List.toArray [(61 : UInt8), (33 : UInt8), (126 : UInt8)])) (1 : Int) (1 : Int))).bind fun r0_0 =>
      if (!r0_0) = true then
       some (false, ((0 : Int), (false, (false, (l0, (l1, []))))))
      else
       if (decide ((0 : Int) < ((l0.length : Nat) : Int))) = true then
        if (decide (0 < l0.length)) = true then
         ((Go.Tx.chart_point (l0.getD 0 ByteArray.empty))).bind fun (r1_0, r1_1) =>
          if ((decide ((2 : Int) ≤ ((l0.length : Nat) : Int))) && (decide (((l0.length : Nat) : Int) ≤ ((l0.length : Nat) : Int)))) = true then
           ((Go.Tx.chart_points (List.drop 2 (List.take ((l0.length : Nat) : Int).toNat l0)))).bind fun (r2_0, r2_1, r2_2) =>
            if (!r1_1) = true then
             some (false, ((0 : Int), (false, (false, (l0, (l1, []))))))
            else
             if (!r2_0) = true then
              some (false, ((0 : Int), (false, (false, (l0, (l1, []))))))
             else
              if (decide (((l1.length : Nat) : Int) > (0 : Int))) = true then
               if ((decide ((0 : Int) ≤ (Go.IntKind.wrap .i64 (((l1.length : Nat) : Int) - (1 : Int))))) && (decide ((Go.IntKind.wrap .i64 (((l1.length : Nat) : Int) - (1 : Int))) < ((l1.length : Nat) : Int)))) = true then
                if (decide ((Go.IntKind.wrap .i64 (((l1.length : Nat) : Int) - (1 : Int))).toNat < l1.length)) = true then
                 if (decide ((l1.getD (Go.IntKind.wrap .i64 (((l1.length : Nat) : Int) - (1 : Int))).toNat ((0 : Int), ([], (false, false)))).1 ≥ r1_0)) = true then
                  some (false, ((0 : Int), (false, (false, (l0, (l1, []))))))
                 else
                  if (decide ((1 : Int) < ((l0.length : Nat) : Int))) = true then
                   if (decide (1 < l0.length)) = true then
                    if (decide ((1 : Int) < ((l0.length : Nat) : Int))) = true then
                     if (decide (1 < l0.length)) = true then
                      some (true, (r1_0, ((List.beq (ByteArray.toList (l0.getD 1 ByteArray.empty)) (ByteArray.toList (ByteArray.mk (List.toArray [(126 : UInt8)])))), ((List.beq (ByteArray.toList (l0.getD 1 ByteArray.empty)) (ByteArray.toList (ByteArray.mk (List.toArray [(33 : UInt8)])))), (l0, (l1, r2_2))))))
                     else
                      none
                    else
                     none
                   else
                    none
                  else
                   none
                else
                 none
               else
                none
              else
               if (decide ((1 : Int) < ((l0.length : Nat) : Int))) = true then
                if (decide (1 < l0.length)) = true then
                 if (decide ((1 : Int) < ((l0.length : Nat) : Int))) = true then
                  if (decide (1 < l0.length)) = true then
                   some (true, (r1_0, ((List.beq (ByteArray.toList (l0.getD 1 ByteArray.empty)) (ByteArray.toList (ByteArray.mk (List.toArray [(126 : UInt8)])))), ((List.beq (ByteArray.toList (l0.getD 1 ByteArray.empty)) (ByteArray.toList (ByteArray.mk (List.toArray [(33 : UInt8)])))), (l0, (l1, r2_2))))))
                  else
                   none
                 else
                  none
                else
                 none
               else
                none
          else
           none
        else
         none
       else
        none
    else
     none
   else
    none
noncomputable def chart_read_Decomp_b5 : Int × Int × List (ByteArray) × List (Int × List (Int) × Bool × Bool) → Option ((Int × Int × List (ByteArray) × List (Int × List (Int) × Bool × Bool)) ⊕ ((List (Int × List (Int) × Bool × Bool)) ⊕ (Int × Int))) := fun
  | (t16, t17, l1150, l5000) =>
  if (decide (t17 < t16)) = true then
   if ((decide ((0 : Int) ≤ t17)) && (decide (t17 < ((l1150.length : Nat) : Int)))) = true then
    if (decide (t17.toNat < l1150.length)) = true then
     ((Go.Tx.strings_Split (l1150.getD t17.toNat ByteArray.empty) (ByteArray.mk (List.toArray [(32 : UInt8)])))).bind fun r0_0 =>
      ((Go.Tx.chart_Decomps_1 r0_0 l5000)).bind fun (r1_0, r1_1, r1_2, r1_3, r1_4, r1_5, r1_6) =>
       if (!r1_0) = true then
        some (.inr (.inr ((3 : Int), (Go.IntKind.wrap .i64 (t17 + (1 : Int))))))
       else
        if (decide (((r1_5.length + [(r1_1, (r1_6, (r1_2, r1_3)))].length) * 40) ≤ 140737488355328)) = true then
         some (.inl (t16, ((Go.IntKind.wrap .i64 (t17 + (1 : Int))), (l1150, (r1_5 ++ [(r1_1, (r1_6, (r1_2, r1_3)))])))))
        else
         none
    else
     none
   else
    none
  else
   some (.inr (.inl l5000))
noncomputable def chart_read_Decomp (s0 : ByteArray) : Option ((Int × Int × List (Int × List (Int) × Bool × Bool))) :=
  if (List.beq (ByteArray.toList s0) (ByteArray.toList (ByteArray.mk (List.toArray [])))) = true then
   some ((0 : Int), ((0 : Int), []))
  else
   ((Go.Tx.strings_Split s0 (ByteArray.mk (List.toArray [(10 : UInt8)])))).bind fun r0_0 =>
    ((Go.Sx.runLoop chart_read_Decomp_b5 (((r0_0.length : Nat) : Int), ((0 : Int), (r0_0, []))))).bind fun r1_0 =>
     match r1_0 with
     | .inl r2_0 =>
      some ((0 : Int), ((0 : Int), r2_0))
     | .inr (r3_0, r3_1) =>
      some (r3_0, (r3_1, []))
noncomputable def chart_Decomps (s0 : ByteArray) : Option ((Int × Int × List (Int × List (Int) × Bool × Bool))) :=
  ((Go.Tx.chart_read_Decomp s0)).bind fun (r0_0, r0_1, r0_2) =>
   some (r0_0, (r0_1, r0_2))
end Go.Tx

namespace Go.Tx
open Go Go.Sx Go.Proofs
def asciiB (s : ByteArray) : Bool := s.data.toList.all (fun b => decide (b.toNat < 128))
def strings_ToUpper (s : ByteArray) : Option ByteArray := if (decide (s.size ≤ 140737488355328) && asciiB s) = true then some ⟨(Lib.toUpperA s.data.toList).toArray⟩ else none
noncomputable def strings_ToUpper_s : TSum := TSum.one ⟨[.b .str], 1, [(0, .v)], []⟩ ByteArray (fun v => strings_ToUpper v) (fun o => (.v (.string o), []))
theorem strings_ToUpper_v {gl : Glob} (hg : Gs gl) : ValidS Tryd.prog gl 10 strings_ToUpper_s := by
  refine validS_pure hg.ne (by kernel_rfl) ?_
  rintro s o ho
  have ho' : strings_ToUpper s = some o := ho
  unfold strings_ToUpper at ho'
  split at ho'
  · rename_i hc
    cases ho'
    rw [Bool.and_eq_true, decide_eq_true_eq] at hc
    refine ⟨rfl, _, fun ρ => rfl, fun w hw => Tryd.strings_ToUpper_ascii s w hc.1 (fun j b hb => ?_)⟩
    have := List.all_eq_true.1 hc.2 b (List.mem_of_getElem? hb)
    simpa using this
  · cases ho'

def strings_Repeat (s : ByteArray) (c : Int) : Option ByteArray := if (decide (0 ≤ c) && (decide (c ≤ 9223372036854775807) && decide (s.size * c.toNat ≤ 140737488355328))) = true then some ⟨(Lib.repeatL s.data.toList c.toNat).toArray⟩ else none
noncomputable def strings_Repeat_s : TSum := TSum.one ⟨[.b .str, .b (.int .i64)], 2, [(0, .v), (1, .v)], []⟩ ByteArray (fun v => strings_Repeat v.1 v.2) (fun o => (.v (.string o), []))
theorem strings_Repeat_v {gl : Glob} (hg : Gs gl) : ValidS Tryd.prog gl 12 strings_Repeat_s := by
  refine validS_pure hg.ne (by kernel_rfl) ?_
  rintro ⟨s, (c : Int)⟩ o ho
  have ho' : strings_Repeat s c = some o := ho
  unfold strings_Repeat at ho'
  split at ho'
  · rename_i hc
    cases ho'
    rw [Bool.and_eq_true, Bool.and_eq_true, decide_eq_true_eq, decide_eq_true_eq, decide_eq_true_eq] at hc
    refine ⟨rfl, _, fun ρ => rfl, fun w hw => ?_⟩
    have hcc : ((c.toNat : Nat) : Int) = c := by omega
    have h := Tryd.strings_Repeat s c.toNat w (by omega) hc.2.2
    rw [hcc] at h
    exact h
  · cases ho'

end Go.Tx

namespace Go.Tx
open Go Go.Sx Go.Proofs
def joinP (rw' : Bool) : Pat := ⟨[.b .str, .r [.b .str]], 2, [(0, .own 0), (1, .v)], [⟨0, 0, .row rw' 9 [.b .str]⟩]⟩
theorem join_inv {rw' : Bool} {args : List SVal} {ents : List TEnt} {v : Vars (joinP rw').vars} (h : unCall (joinP rw') args ents = some v) :
    ∃ (s : ByteArray) (l : List ByteArray), v = (s, l) ∧ args = [.own 0 0, .v (.string s)] ∧ ents = [⟨0, 0, .row rw' 9 [.b .str] l⟩] := by
  have hl := unCall_length h
  match args, hl with
  | [x, y], _ =>
    unfold unCall at h
    split at h
    · rename_i a b ha hb
      simp only [joinP, matchArgs, if_true, Nat.zero_add] at ha
      split at ha
      · rename_i a1 a2 hx hy
        cases ha
        have hx' : x = .own 0 0 ∧ a1 = [] := by
          cases x with
          | own b' u =>
            simp only [matchS, idMap, List.map_cons, List.map_nil, NMap.at, if_true] at hx
            split at hx
            · rename_i hc; obtain ⟨rfl, rfl⟩ := hc; cases hx; exact ⟨rfl, rfl⟩
            · cases hx
          | _ => simp [matchS] at hx
        obtain ⟨rfl, rfl⟩ := hx'
        split at hy
        · rename_i s1 s2 hy1 hy2
          cases hy
          cases hy2
          have hy' : ∃ z sg, y = .v z ∧ sigOf z = some sg ∧ s1 = [sg] := by
            cases y with
            | v z =>
              simp only [matchS] at hy1
              split at hy1
              · rename_i sg hsg; cases hy1; exact ⟨z, sg, rfl, hsg, rfl⟩
              · cases hy1
            | _ => simp [matchS] at hy1
          obtain ⟨z, sg, rfl, hsg, rfl⟩ := hy'
          match ents, hb with
          | [], hb => simp [joinP, matchEnts] at hb
          | e1 :: e2 :: r, hb =>
            simp only [joinP, matchEnts] at hb
            split at hb
            · split at hb
              · rename_i q1 q2 _ hq
                cases hq
              · cases hb
            · cases hb
          | [e], hb =>
            simp only [joinP, matchEnts] at hb
            split at hb
            · rename_i hc
              obtain ⟨n, ve, ob⟩ := e
              simp only at hc
              obtain ⟨rfl, rfl⟩ := hc
              split at hb
              · rename_i q1 q2 hq1 hq2
                cases hb
                cases hq2
                cases ob with
                | row rw2 et ks xs =>
                  simp only [matchO] at hq1
                  split at hq1
                  · rename_i hk
                    obtain ⟨rfl, rfl, rfl⟩ := hk
                    cases hq1
                    cases z with
                    | string s =>
                      cases hsg
                      have hv : some (s, xs) = some v := h
                      cases hv
                      exact ⟨s, xs, rfl, rfl, rfl⟩
                    | int k n => cases hsg; exact absurd h (by simp [Tup.ofL, joinP])
                    | bool b => cases hsg; exact absurd h (by simp [Tup.ofL, joinP])
                    | _ => cases hsg
                  · cases hq1
                | _ => simp [matchO] at hq1
              · cases hb
            · cases hb
        · cases hy
      · cases ha
    · cases h
def strings_Join (sep : ByteArray) (l : List ByteArray) : Option ByteArray := if (decide (l.length ≤ 140737488355328) && decide ((Lib.join (l.map (fun x => x.data.toList)) sep.data.toList).length ≤ 140737488355328)) = true then
  (if l.length = 0 then some ⟨#[]⟩ else some ⟨(Lib.join (l.map (fun x => x.data.toList)) sep.data.toList).toArray⟩) else none
noncomputable def strings_Join_s : TSum := TSum.one (joinP true) ByteArray (fun v => strings_Join v.1 v.2) (fun o => (.v (.string o), []))

theorem cells_str {RO : Nat → Prop} {w : World} : ∀ (l : List ByteArray) (ys : List Value), CellsAre RO w (l.map (encT [.b .str])).flatten ys → ys = l.map Value.string
  | [], ys, h => by
    cases ys with
    | nil => rfl
    | cons y r => exact False.elim h
  | x :: l, ys, h => by
    cases ys with
    | nil => exact False.elim h
    | cons y r =>
      have h' : CellIs RO w (.v (.string x)) y ∧ CellsAre RO w (l.map (encT [.b .str])).flatten r := h
      have h1 : y = .string x := h'.1.1
      rw [cells_str l r h'.2, h1]
      rfl

theorem strings_Join_v {gl : Glob} (hg : Gs gl) : ValidS Tryd.prog gl 13 strings_Join_s := by
  intro args ents v o hu hF Fr RO ρ own w vals hgl H hρ hents hd
  obtain ⟨s, l, rfl, rfl, rfl⟩ := join_inv hu
  have hF' : strings_Join s l = some o := hF
  obtain ⟨X, hvals, hX⟩ : ∃ X, vals = #[X, .string s] ∧ ρ 0 0 = some X := by
    obtain ⟨vl⟩ := vals
    match vl, hd with
    | [X, Y], hd =>
      obtain ⟨h1, h2, _⟩ := hd
      have h2' : Y = .string s := h2
      subst h2'
      exact ⟨X, rfl, h1⟩
  subst hvals
  obtain ⟨_, X', hX', hh⟩ := H.ent 0 ⟨0, 0, .row true 9 1 (l.map (encT [.b .str]))⟩ rfl
  have hXX : X' = X := Option.some.inj (hX'.symm.trans hX)
  subst hXX
  obtain ⟨vs, hrow, hcells, _, _⟩ := hh
  have hvs := cells_str l vs hcells
  have key : Calls Tryd.prog 13 #[X', .string s] w fun e w' => e = .returned (.string o) ∧ Go.RowKit.Below w.heap.size w w' := by
    unfold strings_Join at hF'
    split at hF'
    · rename_i hc
      rw [Bool.and_eq_true, decide_eq_true_eq, decide_eq_true_eq] at hc
      have hlen : (l.map (encT [.b .str])).length = l.length := List.length_map _
      rw [hlen] at hrow
      split at hF'
      · rename_i h0
        cases hF'
        rcases hrow.2 with ⟨hs, _⟩ | ⟨g, cap, cur, hs, _⟩
        · rw [hs]
          refine (Tryd.strings_Join_none none 0 s w).mono ?_
          rintro e w' ⟨rfl, rfl⟩
          exact ⟨rfl, Go.RowKit.Below.refl _ _⟩
        · rw [hs, h0]
          refine (Tryd.strings_Join_none (some ⟨g, 0, none⟩) cap s w).mono ?_
          rintro e w' ⟨rfl, rfl⟩
          exact ⟨rfl, Go.RowKit.Below.refl _ _⟩
      · rename_i h0
        cases hF'
        have hrow' := hrow
        rcases hrow.2 with ⟨_, hn⟩ | ⟨g, cap, cur, hs, _, hgg, hnc, hcm, _, _⟩
        · exact absurd hn h0
        · rw [hs]
          have hcl := hrow'.cells (by rw [hs]; rfl : X'.ownBlock = some g)
          have hsz : g < w.heap.size := (Array.getElem?_eq_some_iff.1 hgg).1
          exact Tryd.strings_Join g 0 cap l s w (fun j x hj => by
            have := hcl j (.string x) (by rw [hvs, List.getElem?_map, hj]; rfl)
            cases j with
            | zero => simpa [Addr.add] using this
            | succ j => simpa [Addr.add] using this) hsz hc.1 hnc hc.2
    · cases hF'
  refine key.mono ?_
  rintro e w' ⟨rfl, hb⟩
  have ha := adv_below hb
  exact ⟨.string o, ρ, own, RO, rfl, H.adv ha, rfl, fun b hb => ⟨by
    have hb0 : b = 0 := by simp [eraH] at hb; exact hb
    subst hb0
    exact ⟨_, rfl⟩, fun x hx => hx⟩, fun _ h => h, .loose (adv_frame' H ha) hg.ne⟩
end Go.Tx

namespace Go.Tx
open Go Go.Sx Go.Proofs
def tzRen : Go.Shelf.Ren := ⟨fun | 29 => 87 | n => n, fun | 0 => 0 | 3 => 3 | 4 => 4 | 5 => 5 | 22 => 44 | 25 => 72 | 54 => 148 | n => n, fun | 1 => 8 | n => n⟩
theorem tzLays : Go.Proofs.Lays7.n29 Tryd.prog tzRen := {
  mixed := by kernel_rfl
  f29 := Tryd.func87.trans (congrArg some (by kernel_rfl))
  t0 := Tryd.underlying0
  a0 := Tryd.isAgg0
  z0 := Tryd.sizeOf0
  v0 := Tryd.zeroValue0
  i0 := by kernel_rfl
  t3 := Tryd.underlying3
  a3 := Tryd.isAgg3
  z3 := Tryd.sizeOf3
  v3 := Tryd.zeroValue3
  i3 := by kernel_rfl
  t4 := Tryd.underlying4
  a4 := Tryd.isAgg4
  z4 := Tryd.sizeOf4
  v4 := Tryd.zeroValue4
  i4 := by kernel_rfl
  t5 := Tryd.underlying5
  a5 := Tryd.isAgg5
  z5 := Tryd.sizeOf5
  v5 := Tryd.zeroValue5
  i5 := by kernel_rfl
  t22 := Tryd.underlying44
  a22 := Tryd.isAgg44
  z22 := Tryd.sizeOf44
  v22 := Tryd.zeroValue44
  i22 := by kernel_rfl
  t25 := Tryd.underlying72
  a25 := Tryd.isAgg72
  z25 := Tryd.sizeOf72
  v25 := Tryd.zeroValue72
  i25 := by kernel_rfl
  t54 := Tryd.underlying148
  a54 := Tryd.isAgg148
  z54 := Tryd.sizeOf148
  g1 := by kernel_rfl }

def bits_TrailingZeros64 (x : Int) : Option Int := if (decide (0 ≤ x) && decide (x < 18446744073709551616)) = true then some ((Lib.ctz 64 x.toNat : Nat) : Int) else none
noncomputable def bits_TrailingZeros64_s : TSum := TSum.one ⟨[.b (.int .u64)], 1, [(0, .v)], []⟩ Int (fun v => bits_TrailingZeros64 v) (fun o => (.v (.int .i64 o), []))
theorem bits_TrailingZeros64_v {gl : Glob} (hg : Gs gl) : ValidS Tryd.prog gl 87 bits_TrailingZeros64_s := by
  refine validS_pure hg.ne (by kernel_rfl) ?_
  rintro (x : Int) o ho
  have ho' : bits_TrailingZeros64 x = some o := ho
  unfold bits_TrailingZeros64 at ho'
  split at ho'
  · rename_i hc
    cases ho'
    rw [Bool.and_eq_true, decide_eq_true_eq, decide_eq_true_eq] at hc
    refine ⟨rfl, _, fun ρ => rfl, fun w hw => ?_⟩
    have hx : ((x.toNat : Nat) : Int) = x := by omega
    have h := Any7.bits_TrailingZeros64 tzLays x.toNat (by omega) w (fun _ => hg.db64 w hw)
    rw [hx] at h
    refine h.mono ?_
    rintro e w' ⟨rfl, rfl⟩
    exact ⟨rfl, Go.RowKit.Below.refl _ _⟩
  · cases ho'
end Go.Tx

namespace Go.Tx
open Go Go.Sx
noncomputable def internal_strconv_isPowerOfTwo (x0 : Int) : Option (Bool) :=
  some (decide ((Go.IntKind.wrap .i64 (((BitVec.toNat (BitVec.and (BitVec.ofInt 64 x0) (BitVec.ofInt 64 (Go.IntKind.wrap .i64 (x0 - (1 : Int)))))) : Nat) : Int)) = (0 : Int)))
noncomputable def math_bits_TrailingZeros (x0 : Int) : Option (Int) :=
  ((Go.Tx.bits_TrailingZeros64 x0)).bind fun r0_0 =>
   some r0_0
noncomputable def internal_strconv_formatBits (u1 : Int) : Option ((ByteArray × List (Int))) :=
  ((Go.Tx.internal_strconv_isPowerOfTwo (16 : Int))).bind fun r0_0 =>
   if r0_0 = true then
    ((Go.Tx.math_bits_TrailingZeros (16 : Int))).bind fun r1_0 =>
     if (decide (u1 ≥ (16 : Int))) = true then
      if ((decide ((0 : Int) ≤ (Go.IntKind.wrap .u64 (((BitVec.toNat (BitVec.and (BitVec.ofInt 64 u1) (BitVec.ofInt 64 (15 : Int)))) : Nat) : Int)))) && (decide ((Go.IntKind.wrap .u64 (((BitVec.toNat (BitVec.and (BitVec.ofInt 64 u1) (BitVec.ofInt 64 (15 : Int)))) : Nat) : Int)) < (36 : Int)))) = true then
       if (decide ((0 : Int) ≤ (Go.IntKind.wrap .u64 r1_0))) = true then
        if (decide ((Int.fdiv u1 (Int.pow (2 : Int) (if ((Go.IntKind.wrap .u64 r1_0).toNat ≤ 64) then (Go.IntKind.wrap .u64 r1_0).toNat else 64))) ≥ (16 : Int))) = true then
         if ((decide ((0 : Int) ≤ (Go.IntKind.wrap .u64 (((BitVec.toNat (BitVec.and (BitVec.ofInt 64 (Int.fdiv u1 (Int.pow (2 : Int) (if ((Go.IntKind.wrap .u64 r1_0).toNat ≤ 64) then (Go.IntKind.wrap .u64 r1_0).toNat else 64)))) (BitVec.ofInt 64 (15 : Int)))) : Nat) : Int)))) && (decide ((Go.IntKind.wrap .u64 (((BitVec.toNat (BitVec.and (BitVec.ofInt 64 (Int.fdiv u1 (Int.pow (2 : Int) (if ((Go.IntKind.wrap .u64 r1_0).toNat ≤ 64) then (Go.IntKind.wrap .u64 r1_0).toNat else 64)))) (BitVec.ofInt 64 (15 : Int)))) : Nat) : Int)) < (36 : Int)))) = true then
          if (decide ((0 : Int) ≤ (Go.IntKind.wrap .u64 r1_0))) = true then
           if (decide ((Int.fdiv (Int.fdiv u1 (Int.pow (2 : Int) (if ((Go.IntKind.wrap .u64 r1_0).toNat ≤ 64) then (Go.IntKind.wrap .u64 r1_0).toNat else 64))) (Int.pow (2 : Int) (if ((Go.IntKind.wrap .u64 r1_0).toNat ≤ 64) then (Go.IntKind.wrap .u64 r1_0).toNat else 64))) ≥ (16 : Int))) = true then
            if ((decide ((0 : Int) ≤ (Go.IntKind.wrap .u64 (((BitVec.toNat (BitVec.and (BitVec.ofInt 64 (Int.fdiv (Int.fdiv u1 (Int.pow (2 : Int) (if ((Go.IntKind.wrap .u64 r1_0).toNat ≤ 64) then (Go.IntKind.wrap .u64 r1_0).toNat else 64))) (Int.pow (2 : Int) (if ((Go.IntKind.wrap .u64 r1_0).toNat ≤ 64) then (Go.IntKind.wrap .u64 r1_0).toNat else 64)))) (BitVec.ofInt 64 (15 : Int)))) : Nat) : Int)))) && (decide ((Go.IntKind.wrap .u64 (((BitVec.toNat (BitVec.and (BitVec.ofInt 64 (Int.fdiv (Int.fdiv u1 (Int.pow (2 : Int) (if ((Go.IntKind.wrap .u64 r1_0).toNat ≤ 64) then (Go.IntKind.wrap .u64 r1_0).toNat else 64))) (Int.pow (2 : Int) (if ((Go.IntKind.wrap .u64 r1_0).toNat ≤ 64) then (Go.IntKind.wrap .u64 r1_0).toNat else 64)))) (BitVec.ofInt 64 (15 : Int)))) : Nat) : Int)) < (36 : Int)))) = true then
             if (decide ((0 : Int) ≤ (Go.IntKind.wrap .u64 r1_0))) = true then
              if (decide ((Int.fdiv (Int.fdiv (Int.fdiv u1 (Int.pow (2 : Int) (if ((Go.IntKind.wrap .u64 r1_0).toNat ≤ 64) then (Go.IntKind.wrap .u64 r1_0).toNat else 64))) (Int.pow (2 : Int) (if ((Go.IntKind.wrap .u64 r1_0).toNat ≤ 64) then (Go.IntKind.wrap .u64 r1_0).toNat else 64))) (Int.pow (2 : Int) (if ((Go.IntKind.wrap .u64 r1_0).toNat ≤ 64) then (Go.IntKind.wrap .u64 r1_0).toNat else 64))) ≥ (16 : Int))) = true then
               if ((decide ((0 : Int) ≤ (Go.IntKind.wrap .u64 (((BitVec.toNat (BitVec.and (BitVec.ofInt 64 (Int.fdiv (Int.fdiv (Int.fdiv u1 (Int.pow (2 : Int) (if ((Go.IntKind.wrap .u64 r1_0).toNat ≤ 64) then (Go.IntKind.wrap .u64 r1_0).toNat else 64))) (Int.pow (2 : Int) (if ((Go.IntKind.wrap .u64 r1_0).toNat ≤ 64) then (Go.IntKind.wrap .u64 r1_0).toNat else 64))) (Int.pow (2 : Int) (if ((Go.IntKind.wrap .u64 r1_0).toNat ≤ 64) then (Go.IntKind.wrap .u64 r1_0).toNat else 64)))) (BitVec.ofInt 64 (15 : Int)))) : Nat) : Int)))) && (decide ((Go.IntKind.wrap .u64 (((BitVec.toNat (BitVec.and (BitVec.ofInt 64 (Int.fdiv (Int.fdiv (Int.fdiv u1 (Int.pow (2 : Int) (if ((Go.IntKind.wrap .u64 r1_0).toNat ≤ 64) then (Go.IntKind.wrap .u64 r1_0).toNat else 64))) (Int.pow (2 : Int) (if ((Go.IntKind.wrap .u64 r1_0).toNat ≤ 64) then (Go.IntKind.wrap .u64 r1_0).toNat else 64))) (Int.pow (2 : Int) (if ((Go.IntKind.wrap .u64 r1_0).toNat ≤ 64) then (Go.IntKind.wrap .u64 r1_0).toNat else 64)))) (BitVec.ofInt 64 (15 : Int)))) : Nat) : Int)) < (36 : Int)))) = true then
                if (decide ((0 : Int) ≤ (Go.IntKind.wrap .u64 r1_0))) = true then
                 if (decide ((Int.fdiv (Int.fdiv (Int.fdiv (Int.fdiv u1 (Int.pow (2 : Int) (if ((Go.IntKind.wrap .u64 r1_0).toNat ≤ 64) then (Go.IntKind.wrap .u64 r1_0).toNat else 64))) (Int.pow (2 : Int) (if ((Go.IntKind.wrap .u64 r1_0).toNat ≤ 64) then (Go.IntKind.wrap .u64 r1_0).toNat else 64))) (Int.pow (2 : Int) (if ((Go.IntKind.wrap .u64 r1_0).toNat ≤ 64) then (Go.IntKind.wrap .u64 r1_0).toNat else 64))) (Int.pow (2 : Int) (if ((Go.IntKind.wrap .u64 r1_0).toNat ≤ 64) then (Go.IntKind.wrap .u64 r1_0).toNat else 64))) ≥ (16 : Int))) = true then
                  if ((decide ((0 : Int) ≤ (Go.IntKind.wrap .u64 (((BitVec.toNat (BitVec.and (BitVec.ofInt 64 (Int.fdiv (Int.fdiv (Int.fdiv (Int.fdiv u1 (Int.pow (2 : Int) (if ((Go.IntKind.wrap .u64 r1_0).toNat ≤ 64) then (Go.IntKind.wrap .u64 r1_0).toNat else 64))) (Int.pow (2 : Int) (if ((Go.IntKind.wrap .u64 r1_0).toNat ≤ 64) then (Go.IntKind.wrap .u64 r1_0).toNat else 64))) (Int.pow (2 : Int) (if ((Go.IntKind.wrap .u64 r1_0).toNat ≤ 64) then (Go.IntKind.wrap .u64 r1_0).toNat else 64))) (Int.pow (2 : Int) (if ((Go.IntKind.wrap .u64 r1_0).toNat ≤ 64) then (Go.IntKind.wrap .u64 r1_0).toNat else 64)))) (BitVec.ofInt 64 (15 : Int)))) : Nat) : Int)))) && (decide ((Go.IntKind.wrap .u64 (((BitVec.toNat (BitVec.and (BitVec.ofInt 64 (Int.fdiv (Int.fdiv (Int.fdiv (Int.fdiv u1 (Int.pow (2 : Int) (if ((Go.IntKind.wrap .u64 r1_0).toNat ≤ 64) then (Go.IntKind.wrap .u64 r1_0).toNat else 64))) (Int.pow (2 : Int) (if ((Go.IntKind.wrap .u64 r1_0).toNat ≤ 64) then (Go.IntKind.wrap .u64 r1_0).toNat else 64))) (Int.pow (2 : Int) (if ((Go.IntKind.wrap .u64 r1_0).toNat ≤ 64) then (Go.IntKind.wrap .u64 r1_0).toNat else 64))) (Int.pow (2 : Int) (if ((Go.IntKind.wrap .u64 r1_0).toNat ≤ 64) then (Go.IntKind.wrap .u64 r1_0).toNat else 64)))) (BitVec.ofInt 64 (15 : Int)))) : Nat) : Int)) < (36 : Int)))) = true then
                   if (decide ((0 : Int) ≤ (Go.IntKind.wrap .u64 r1_0))) = true then
                    if (decide ((Int.fdiv (Int.fdiv (Int.fdiv (Int.fdiv (Int.fdiv u1 (Int.pow (2 : Int) (if ((Go.IntKind.wrap .u64 r1_0).toNat ≤ 64) then (Go.IntKind.wrap .u64 r1_0).toNat else 64))) (Int.pow (2 : Int) (if ((Go.IntKind.wrap .u64 r1_0).toNat ≤ 64) then (Go.IntKind.wrap .u64 r1_0).toNat else 64))) (Int.pow (2 : Int) (if ((Go.IntKind.wrap .u64 r1_0).toNat ≤ 64) then (Go.IntKind.wrap .u64 r1_0).toNat else 64))) (Int.pow (2 : Int) (if ((Go.IntKind.wrap .u64 r1_0).toNat ≤ 64) then (Go.IntKind.wrap .u64 r1_0).toNat else 64))) (Int.pow (2 : Int) (if ((Go.IntKind.wrap .u64 r1_0).toNat ≤ 64) then (Go.IntKind.wrap .u64 r1_0).toNat else 64))) ≥ (16 : Int))) = true then
                     if ((decide ((0 : Int) ≤ (Go.IntKind.wrap .u64 (((BitVec.toNat (BitVec.and (BitVec.ofInt 64 (Int.fdiv (Int.fdiv (Int.fdiv (Int.fdiv (Int.fdiv u1 (Int.pow (2 : Int) (if ((Go.IntKind.wrap .u64 r1_0).toNat ≤ 64) then (Go.IntKind.wrap .u64 r1_0).toNat else 64))) (Int.pow (2 : Int) (if ((Go.IntKind.wrap .u64 r1_0).toNat ≤ 64) then (Go.IntKind.wrap .u64 r1_0).toNat else 64))) (Int.pow (2 : Int) (if ((Go.IntKind.wrap .u64 r1_0).toNat ≤ 64) then (Go.IntKind.wrap .u64 r1_0).toNat else 64))) (Int.pow (2 : Int) (if ((Go.IntKind.wrap .u64 r1_0).toNat ≤ 64) then (Go.IntKind.wrap .u64 r1_0).toNat else 64))) (Int.pow (2 : Int) (if ((Go.IntKind.wrap .u64 r1_0).toNat ≤ 64) then (Go.IntKind.wrap .u64 r1_0).toNat else 64)))) (BitVec.ofInt 64 (15 : Int)))) : Nat) : Int)))) && (decide ((Go.IntKind.wrap .u64 (((BitVec.toNat (BitVec.and (BitVec.ofInt 64 (Int.fdiv (Int.fdiv (Int.fdiv (Int.fdiv (Int.fdiv u1 (Int.pow (2 : Int) (if ((Go.IntKind.wrap .u64 r1_0).toNat ≤ 64) then (Go.IntKind.wrap .u64 r1_0).toNat else 64))) (Int.pow (2 : Int) (if ((Go.IntKind.wrap .u64 r1_0).toNat ≤ 64) then (Go.IntKind.wrap .u64 r1_0).toNat else 64))) (Int.pow (2 : Int) (if ((Go.IntKind.wrap .u64 r1_0).toNat ≤ 64) then (Go.IntKind.wrap .u64 r1_0).toNat else 64))) (Int.pow (2 : Int) (if ((Go.IntKind.wrap .u64 r1_0).toNat ≤ 64) then (Go.IntKind.wrap .u64 r1_0).toNat else 64))) (Int.pow (2 : Int) (if ((Go.IntKind.wrap .u64 r1_0).toNat ≤ 64) then (Go.IntKind.wrap .u64 r1_0).toNat else 64)))) (BitVec.ofInt 64 (15 : Int)))) : Nat) : Int)) < (36 : Int)))) = true then
                      if (decide ((0 : Int) ≤ (Go.IntKind.wrap .u64 r1_0))) = true then
                       none
                      else
                       none
                     else
                      none
                    else
                     if ((decide ((0 : Int) ≤ (Int.fdiv (Int.fdiv (Int.fdiv (Int.fdiv (Int.fdiv u1 (Int.pow (2 : Int) (if ((Go.IntKind.wrap .u64 r1_0).toNat ≤ 64) then (Go.IntKind.wrap .u64 r1_0).toNat else 64))) (Int.pow (2 : Int) (if ((Go.IntKind.wrap .u64 r1_0).toNat ≤ 64) then (Go.IntKind.wrap .u64 r1_0).toNat else 64))) (Int.pow (2 : Int) (if ((Go.IntKind.wrap .u64 r1_0).toNat ≤ 64) then (Go.IntKind.wrap .u64 r1_0).toNat else 64))) (Int.pow (2 : Int) (if ((Go.IntKind.wrap .u64 r1_0).toNat ≤ 64) then (Go.IntKind.wrap .u64 r1_0).toNat else 64))) (Int.pow (2 : Int) (if ((Go.IntKind.wrap .u64 r1_0).toNat ≤ 64) then (Go.IntKind.wrap .u64 r1_0).toNat else 64))))) && (decide ((Int.fdiv (Int.fdiv (Int.fdiv (Int.fdiv (Int.fdiv u1 (Int.pow (2 : Int) (if ((Go.IntKind.wrap .u64 r1_0).toNat ≤ 64) then (Go.IntKind.wrap .u64 r1_0).toNat else 64))) (Int.pow (2 : Int) (if ((Go.IntKind.wrap .u64 r1_0).toNat ≤ 64) then (Go.IntKind.wrap .u64 r1_0).toNat else 64))) (Int.pow (2 : Int) (if ((Go.IntKind.wrap .u64 r1_0).toNat ≤ 64) then (Go.IntKind.wrap .u64 r1_0).toNat else 64))) (Int.pow (2 : Int) (if ((Go.IntKind.wrap .u64 r1_0).toNat ≤ 64) then (Go.IntKind.wrap .u64 r1_0).toNat else 64))) (Int.pow (2 : Int) (if ((Go.IntKind.wrap .u64 r1_0).toNat ≤ 64) then (Go.IntKind.wrap .u64 r1_0).toNat else 64))) < (36 : Int)))) = true then
                      some ((Go.Sx.textOf (List.drop 59 (List.take 65 [(0 : Int), (0 : Int), (0 : Int), (0 : Int), (0 : Int), (0 : Int), (0 : Int), (0 : Int), (0 : Int), (0 : Int), (0 : Int), (0 : Int), (0 : Int), (0 : Int), (0 : Int), (0 : Int), (0 : Int), (0 : Int), (0 : Int), (0 : Int), (0 : Int), (0 : Int), (0 : Int), (0 : Int), (0 : Int), (0 : Int), (0 : Int), (0 : Int), (0 : Int), (0 : Int), (0 : Int), (0 : Int), (0 : Int), (0 : Int), (0 : Int), (0 : Int), (0 : Int), (0 : Int), (0 : Int), (0 : Int), (0 : Int), (0 : Int), (0 : Int), (0 : Int), (0 : Int), (0 : Int), (0 : Int), (0 : Int), (0 : Int), (0 : Int), (0 : Int), (0 : Int), (0 : Int), (0 : Int), (0 : Int), (0 : Int), (0 : Int), (0 : Int), (0 : Int), ((([(48 : UInt8), (49 : UInt8), (50 : UInt8), (51 : UInt8), (52 : UInt8), (53 : UInt8), (54 : UInt8), (55 : UInt8), (56 : UInt8), (57 : UInt8), (97 : UInt8), (98 : UInt8), (99 : UInt8), (100 : UInt8), (101 : UInt8), (102 : UInt8), (103 : UInt8), (104 : UInt8), (105 : UInt8), (106 : UInt8), (107 : UInt8), (108 : UInt8), (109 : UInt8), (110 : UInt8), (111 : UInt8), (112 : UInt8), (113 : UInt8), (114 : UInt8), (115 : UInt8), (116 : UInt8), (117 : UInt8), (118 : UInt8), (119 : UInt8), (120 : UInt8), (121 : UInt8), (122 : UInt8)].getD (Int.fdiv (Int.fdiv (Int.fdiv (Int.fdiv (Int.fdiv u1 (Int.pow (2 : Int) (if ((Go.IntKind.wrap .u64 r1_0).toNat ≤ 64) then (Go.IntKind.wrap .u64 r1_0).toNat else 64))) (Int.pow (2 : Int) (if ((Go.IntKind.wrap .u64 r1_0).toNat ≤ 64) then (Go.IntKind.wrap .u64 r1_0).toNat else 64))) (Int.pow (2 : Int) (if ((Go.IntKind.wrap .u64 r1_0).toNat ≤ 64) then (Go.IntKind.wrap .u64 r1_0).toNat else 64))) (Int.pow (2 : Int) (if ((Go.IntKind.wrap .u64 r1_0).toNat ≤ 64) then (Go.IntKind.wrap .u64 r1_0).toNat else 64))) (Int.pow (2 : Int) (if ((Go.IntKind.wrap .u64 r1_0).toNat ≤ 64) then (Go.IntKind.wrap .u64 r1_0).toNat else 64))).toNat (0 : UInt8)).toNat : Nat) : Int), ((([(48 : UInt8), (49 : UInt8), (50 : UInt8), (51 : UInt8), (52 : UInt8), (53 : UInt8), (54 : UInt8), (55 : UInt8), (56 : UInt8), (57 : UInt8), (97 : UInt8), (98 : UInt8), (99 : UInt8), (100 : UInt8), (101 : UInt8), (102 : UInt8), (103 : UInt8), (104 : UInt8), (105 : UInt8), (106 : UInt8), (107 : UInt8), (108 : UInt8), (109 : UInt8), (110 : UInt8), (111 : UInt8), (112 : UInt8), (113 : UInt8), (114 : UInt8), (115 : UInt8), (116 : UInt8), (117 : UInt8), (118 : UInt8), (119 : UInt8), (120 : UInt8), (121 : UInt8), (122 : UInt8)].getD (Go.IntKind.wrap .u64 (((BitVec.toNat (BitVec.and (BitVec.ofInt 64 (Int.fdiv (Int.fdiv (Int.fdiv (Int.fdiv u1 (Int.pow (2 : Int) (if ((Go.IntKind.wrap .u64 r1_0).toNat ≤ 64) then (Go.IntKind.wrap .u64 r1_0).toNat else 64))) (Int.pow (2 : Int) (if ((Go.IntKind.wrap .u64 r1_0).toNat ≤ 64) then (Go.IntKind.wrap .u64 r1_0).toNat else 64))) (Int.pow (2 : Int) (if ((Go.IntKind.wrap .u64 r1_0).toNat ≤ 64) then (Go.IntKind.wrap .u64 r1_0).toNat else 64))) (Int.pow (2 : Int) (if ((Go.IntKind.wrap .u64 r1_0).toNat ≤ 64) then (Go.IntKind.wrap .u64 r1_0).toNat else 64)))) (BitVec.ofInt 64 (15 : Int)))) : Nat) : Int)).toNat (0 : UInt8)).toNat : Nat) : Int), ((([(48 : UInt8), (49 : UInt8), (50 : UInt8), (51 : UInt8), (52 : UInt8), (53 : UInt8), (54 : UInt8), (55 : UInt8), (56 : UInt8), (57 : UInt8), (97 : UInt8), (98 : UInt8), (99 : UInt8), (100 : UInt8), (101 : UInt8), (102 : UInt8), (103 : UInt8), (104 : UInt8), (105 : UInt8), (106 : UInt8), (107 : UInt8), (108 : UInt8), (109 : UInt8), (110 : UInt8), (111 : UInt8), (112 : UInt8), (113 : UInt8), (114 : UInt8), (115 : UInt8), (116 : UInt8), (117 : UInt8), (118 : UInt8), (119 : UInt8), (120 : UInt8), (121 : UInt8), (122 : UInt8)].getD (Go.IntKind.wrap .u64 (((BitVec.toNat (BitVec.and (BitVec.ofInt 64 (Int.fdiv (Int.fdiv (Int.fdiv u1 (Int.pow (2 : Int) (if ((Go.IntKind.wrap .u64 r1_0).toNat ≤ 64) then (Go.IntKind.wrap .u64 r1_0).toNat else 64))) (Int.pow (2 : Int) (if ((Go.IntKind.wrap .u64 r1_0).toNat ≤ 64) then (Go.IntKind.wrap .u64 r1_0).toNat else 64))) (Int.pow (2 : Int) (if ((Go.IntKind.wrap .u64 r1_0).toNat ≤ 64) then (Go.IntKind.wrap .u64 r1_0).toNat else 64)))) (BitVec.ofInt 64 (15 : Int)))) : Nat) : Int)).toNat (0 : UInt8)).toNat : Nat) : Int), ((([(48 : UInt8), (49 : UInt8), (50 : UInt8), (51 : UInt8), (52 : UInt8), (53 : UInt8), (54 : UInt8), (55 : UInt8), (56 : UInt8), (57 : UInt8), (97 : UInt8), (98 : UInt8), (99 : UInt8), (100 : UInt8), (101 : UInt8), (102 : UInt8), (103 : UInt8), (104 : UInt8), (105 : UInt8), (106 : UInt8), (107 : UInt8), (108 : UInt8), (109 : UInt8), (110 : UInt8), (111 : UInt8), (112 : UInt8), (113 : UInt8), (114 : UInt8), (115 : UInt8), (116 : UInt8), (117 : UInt8), (118 : UInt8), (119 : UInt8), (120 : UInt8), (121 : UInt8), (122 : UInt8)].getD (Go.IntKind.wrap .u64 (((BitVec.toNat (BitVec.and (BitVec.ofInt 64 (Int.fdiv (Int.fdiv u1 (Int.pow (2 : Int) (if ((Go.IntKind.wrap .u64 r1_0).toNat ≤ 64) then (Go.IntKind.wrap .u64 r1_0).toNat else 64))) (Int.pow (2 : Int) (if ((Go.IntKind.wrap .u64 r1_0).toNat ≤ 64) then (Go.IntKind.wrap .u64 r1_0).toNat else 64)))) (BitVec.ofInt 64 (15 : Int)))) : Nat) : Int)).toNat (0 : UInt8)).toNat : Nat) : Int), ((([(48 : UInt8), (49 : UInt8), (50 : UInt8), (51 : UInt8), (52 : UInt8), (53 : UInt8), (54 : UInt8), (55 : UInt8), (56 : UInt8), (57 : UInt8), (97 : UInt8), (98 : UInt8), (99 : UInt8), (100 : UInt8), (101 : UInt8), (102 : UInt8), (103 : UInt8), (104 : UInt8), (105 : UInt8), (106 : UInt8), (107 : UInt8), (108 : UInt8), (109 : UInt8), (110 : UInt8), (111 : UInt8), (112 : UInt8), (113 : UInt8), (114 : UInt8), (115 : UInt8), (116 : UInt8), (117 : UInt8), (118 : UInt8), (119 : UInt8), (120 : UInt8), (121 : UInt8), (122 : UInt8)].getD (Go.IntKind.wrap .u64 (((BitVec.toNat (BitVec.and (BitVec.ofInt 64 (Int.fdiv u1 (Int.pow (2 : Int) (if ((Go.IntKind.wrap .u64 r1_0).toNat ≤ 64) then (Go.IntKind.wrap .u64 r1_0).toNat else 64)))) (BitVec.ofInt 64 (15 : Int)))) : Nat) : Int)).toNat (0 : UInt8)).toNat : Nat) : Int), ((([(48 : UInt8), (49 : UInt8), (50 : UInt8), (51 : UInt8), (52 : UInt8), (53 : UInt8), (54 : UInt8), (55 : UInt8), (56 : UInt8), (57 : UInt8), (97 : UInt8), (98 : UInt8), (99 : UInt8), (100 : UInt8), (101 : UInt8), (102 : UInt8), (103 : UInt8), (104 : UInt8), (105 : UInt8), (106 : UInt8), (107 : UInt8), (108 : UInt8), (109 : UInt8), (110 : UInt8), (111 : UInt8), (112 : UInt8), (113 : UInt8), (114 : UInt8), (115 : UInt8), (116 : UInt8), (117 : UInt8), (118 : UInt8), (119 : UInt8), (120 : UInt8), (121 : UInt8), (122 : UInt8)].getD (Go.IntKind.wrap .u64 (((BitVec.toNat (BitVec.and (BitVec.ofInt 64 u1) (BitVec.ofInt 64 (15 : Int)))) : Nat) : Int)).toNat (0 : UInt8)).toNat : Nat) : Int)]))), [])
                     else
                      none
                   else
                    none
                  else
                   none
                 else
                  if ((decide ((0 : Int) ≤ (Int.fdiv (Int.fdiv (Int.fdiv (Int.fdiv u1 (Int.pow (2 : Int) (if ((Go.IntKind.wrap .u64 r1_0).toNat ≤ 64) then (Go.IntKind.wrap .u64 r1_0).toNat else 64))) (Int.pow (2 : Int) (if ((Go.IntKind.wrap .u64 r1_0).toNat ≤ 64) then (Go.IntKind.wrap .u64 r1_0).toNat else 64))) (Int.pow (2 : Int) (if ((Go.IntKind.wrap .u64 r1_0).toNat ≤ 64) then (Go.IntKind.wrap .u64 r1_0).toNat else 64))) (Int.pow (2 : Int) (if ((Go.IntKind.wrap .u64 r1_0).toNat ≤ 64) then (Go.IntKind.wrap .u64 r1_0).toNat else 64))))) && (decide ((Int.fdiv (Int.fdiv (Int.fdiv (Int.fdiv u1 (Int.pow (2 : Int) (if ((Go.IntKind.wrap .u64 r1_0).toNat ≤ 64) then (Go.IntKind.wrap .u64 r1_0).toNat else 64))) (Int.pow (2 : Int) (if ((Go.IntKind.wrap .u64 r1_0).toNat ≤ 64) then (Go.IntKind.wrap .u64 r1_0).toNat else 64))) (Int.pow (2 : Int) (if ((Go.IntKind.wrap .u64 r1_0).toNat ≤ 64) then (Go.IntKind.wrap .u64 r1_0).toNat else 64))) (Int.pow (2 : Int) (if ((Go.IntKind.wrap .u64 r1_0).toNat ≤ 64) then (Go.IntKind.wrap .u64 r1_0).toNat else 64))) < (36 : Int)))) = true then
                   some ((Go.Sx.textOf (List.drop 60 (List.take 65 [(0 : Int), (0 : Int), (0 : Int), (0 : Int), (0 : Int), (0 : Int), (0 : Int), (0 : Int), (0 : Int), (0 : Int), (0 : Int), (0 : Int), (0 : Int), (0 : Int), (0 : Int), (0 : Int), (0 : Int), (0 : Int), (0 : Int), (0 : Int), (0 : Int), (0 : Int), (0 : Int), (0 : Int), (0 : Int), (0 : Int), (0 : Int), (0 : Int), (0 : Int), (0 : Int), (0 : Int), (0 : Int), (0 : Int), (0 : Int), (0 : Int), (0 : Int), (0 : Int), (0 : Int), (0 : Int), (0 : Int), (0 : Int), (0 : Int), (0 : Int), (0 : Int), (0 : Int), (0 : Int), (0 : Int), (0 : Int), (0 : Int), (0 : Int), (0 : Int), (0 : Int), (0 : Int), (0 : Int), (0 : Int), (0 : Int), (0 : Int), (0 : Int), (0 : Int), (0 : Int), ((([(48 : UInt8), (49 : UInt8), (50 : UInt8), (51 : UInt8), (52 : UInt8), (53 : UInt8), (54 : UInt8), (55 : UInt8), (56 : UInt8), (57 : UInt8), (97 : UInt8), (98 : UInt8), (99 : UInt8), (100 : UInt8), (101 : UInt8), (102 : UInt8), (103 : UInt8), (104 : UInt8), (105 : UInt8), (106 : UInt8), (107 : UInt8), (108 : UInt8), (109 : UInt8), (110 : UInt8), (111 : UInt8), (112 : UInt8), (113 : UInt8), (114 : UInt8), (115 : UInt8), (116 : UInt8), (117 : UInt8), (118 : UInt8), (119 : UInt8), (120 : UInt8), (121 : UInt8), (122 : UInt8)].getD (Int.fdiv (Int.fdiv (Int.fdiv (Int.fdiv u1 (Int.pow (2 : Int) (if ((Go.IntKind.wrap .u64 r1_0).toNat ≤ 64) then (Go.IntKind.wrap .u64 r1_0).toNat else 64))) (Int.pow (2 : Int) (if ((Go.IntKind.wrap .u64 r1_0).toNat ≤ 64) then (Go.IntKind.wrap .u64 r1_0).toNat else 64))) (Int.pow (2 : Int) (if ((Go.IntKind.wrap .u64 r1_0).toNat ≤ 64) then (Go.IntKind.wrap .u64 r1_0).toNat else 64))) (Int.pow (2 : Int) (if ((Go.IntKind.wrap .u64 r1_0).toNat ≤ 64) then (Go.IntKind.wrap .u64 r1_0).toNat else 64))).toNat (0 : UInt8)).toNat : Nat) : Int), ((([(48 : UInt8), (49 : UInt8), (50 : UInt8), (51 : UInt8), (52 : UInt8), (53 : UInt8), (54 : UInt8), (55 : UInt8), (56 : UInt8), (57 : UInt8), (97 : UInt8), (98 : UInt8), (99 : UInt8), (100 : UInt8), (101 : UInt8), (102 : UInt8), (103 : UInt8), (104 : UInt8), (105 : UInt8), (106 : UInt8), (107 : UInt8), (108 : UInt8), (109 : UInt8), (110 : UInt8), (111 : UInt8), (112 : UInt8), (113 : UInt8), (114 : UInt8), (115 : UInt8), (116 : UInt8), (117 : UInt8), (118 : UInt8), (119 : UInt8), (120 : UInt8), (121 : UInt8), (122 : UInt8)].getD (Go.IntKind.wrap .u64 (((BitVec.toNat (BitVec.and (BitVec.ofInt 64 (Int.fdiv (Int.fdiv (Int.fdiv u1 (Int.pow (2 : Int) (if ((Go.IntKind.wrap .u64 r1_0).toNat ≤ 64) then (Go.IntKind.wrap .u64 r1_0).toNat else 64))) (Int.pow (2 : Int) (if ((Go.IntKind.wrap .u64 r1_0).toNat ≤ 64) then (Go.IntKind.wrap .u64 r1_0).toNat else 64))) (Int.pow (2 : Int) (if ((Go.IntKind.wrap .u64 r1_0).toNat ≤ 64) then (Go.IntKind.wrap .u64 r1_0).toNat else 64)))) (BitVec.ofInt 64 (15 : Int)))) : Nat) : Int)).toNat (0 : UInt8)).toNat : Nat) : Int), ((([(48 : UInt8), (49 : UInt8), (50 : UInt8), (51 : UInt8), (52 : UInt8), (53 : UInt8), (54 : UInt8), (55 : UInt8), (56 : UInt8), (57 : UInt8), (97 : UInt8), (98 : UInt8), (99 : UInt8), (100 : UInt8), (101 : UInt8), (102 : UInt8), (103 : UInt8), (104 : UInt8), (105 : UInt8), (106 : UInt8), (107 : UInt8), (108 : UInt8), (109 : UInt8), (110 : UInt8), (111 : UInt8), (112 : UInt8), (113 : UInt8), (114 : UInt8), (115 : UInt8), (116 : UInt8), (117 : UInt8), (118 : UInt8), (119 : UInt8), (120 : UInt8), (121 : UInt8), (122 : UInt8)].getD (Go.IntKind.wrap .u64 (((BitVec.toNat (BitVec.and (BitVec.ofInt 64 (Int.fdiv (Int.fdiv u1 (Int.pow (2 : Int) (if ((Go.IntKind.wrap .u64 r1_0).toNat ≤ 64) then (Go.IntKind.wrap .u64 r1_0).toNat else 64))) (Int.pow (2 : Int) (if ((Go.IntKind.wrap .u64 r1_0).toNat ≤ 64) then (Go.IntKind.wrap .u64 r1_0).toNat else 64)))) (BitVec.ofInt 64 (15 : Int)))) : Nat) : Int)).toNat (0 : UInt8)).toNat : Nat) : Int), ((([(48 : UInt8), (49 : UInt8), (50 : UInt8), (51 : UInt8), (52 : UInt8), (53 : UInt8), (54 : UInt8), (55 : UInt8), (56 : UInt8), (57 : UInt8), (97 : UInt8), (98 : UInt8), (99 : UInt8), (100 : UInt8), (101 : UInt8), (102 : UInt8), (103 : UInt8), (104 : UInt8), (105 : UInt8), (106 : UInt8), (107 : UInt8), (108 : UInt8), (109 : UInt8), (110 : UInt8), (111 : UInt8), (112 : UInt8), (113 : UInt8), (114 : UInt8), (115 : UInt8), (116 : UInt8), (117 : UInt8), (118 : UInt8), (119 : UInt8), (120 : UInt8), (121 : UInt8), (122 : UInt8)].getD (Go.IntKind.wrap .u64 (((BitVec.toNat (BitVec.and (BitVec.ofInt 64 (Int.fdiv u1 (Int.pow (2 : Int) (if ((Go.IntKind.wrap .u64 r1_0).toNat ≤ 64) then (Go.IntKind.wrap .u64 r1_0).toNat else 64)))) (BitVec.ofInt 64 (15 : Int)))) : Nat) : Int)).toNat (0 : UInt8)).toNat : Nat) : Int), ((([(48 : UInt8), (49 : UInt8), (50 : UInt8), (51 : UInt8), (52 : UInt8), (53 : UInt8), (54 : UInt8), (55 : UInt8), (56 : UInt8), (57 : UInt8), (97 : UInt8), (98 : UInt8), (99 : UInt8), (100 : UInt8), (101 : UInt8), (102 : UInt8), (103 : UInt8), (104 : UInt8), (105 : UInt8), (106 : UInt8), (107 : UInt8), (108 : UInt8), (109 : UInt8), (110 : UInt8), (111 : UInt8), (112 : UInt8), (113 : UInt8), (114 : UInt8), (115 : UInt8), (116 : UInt8), (117 : UInt8), (118 : UInt8), (119 : UInt8), (120 : UInt8), (121 : UInt8), (122 : UInt8)].getD (Go.IntKind.wrap .u64 (((BitVec.toNat (BitVec.and (BitVec.ofInt 64 u1) (BitVec.ofInt 64 (15 : Int)))) : Nat) : Int)).toNat (0 : UInt8)).toNat : Nat) : Int)]))), [])
                  else
                   none
                else
                 none
               else
                none
              else
               if ((decide ((0 : Int) ≤ (Int.fdiv (Int.fdiv (Int.fdiv u1 (Int.pow (2 : Int) (if ((Go.IntKind.wrap .u64 r1_0).toNat ≤ 64) then (Go.IntKind.wrap .u64 r1_0).toNat else 64))) (Int.pow (2 : Int) (if ((Go.IntKind.wrap .u64 r1_0).toNat ≤ 64) then (Go.IntKind.wrap .u64 r1_0).toNat else 64))) (Int.pow (2 : Int) (if ((Go.IntKind.wrap .u64 r1_0).toNat ≤ 64) then (Go.IntKind.wrap .u64 r1_0).toNat else 64))))) && (decide ((Int.fdiv (Int.fdiv (Int.fdiv u1 (Int.pow (2 : Int) (if ((Go.IntKind.wrap .u64 r1_0).toNat ≤ 64) then (Go.IntKind.wrap .u64 r1_0).toNat else 64))) (Int.pow (2 : Int) (if ((Go.IntKind.wrap .u64 r1_0).toNat ≤ 64) then (Go.IntKind.wrap .u64 r1_0).toNat else 64))) (Int.pow (2 : Int) (if ((Go.IntKind.wrap .u64 r1_0).toNat ≤ 64) then (Go.IntKind.wrap .u64 r1_0).toNat else 64))) < (36 : Int)))) = true then
                some ((Go.Sx.textOf (List.drop 61 (List.take 65 [(0 : Int), (0 : Int), (0 : Int), (0 : Int), (0 : Int), (0 : Int), (0 : Int), (0 : Int), (0 : Int), (0 : Int), (0 : Int), (0 : Int), (0 : Int), (0 : Int), (0 : Int), (0 : Int), (0 : Int), (0 : Int), (0 : Int), (0 : Int), (0 : Int), (0 : Int), (0 : Int), (0 : Int), (0 : Int), (0 : Int), (0 : Int), (0 : Int), (0 : Int), (0 : Int), (0 : Int), (0 : Int), (0 : Int), (0 : Int), (0 : Int), (0 : Int), (0 : Int), (0 : Int), (0 : Int), (0 : Int), (0 : Int), (0 : Int), (0 : Int), (0 : Int), (0 : Int), (0 : Int), (0 : Int), (0 : Int), (0 : Int), (0 : Int), (0 : Int), (0 : Int), (0 : Int), (0 : Int), (0 : Int), (0 : Int), (0 : Int), (0 : Int), (0 : Int), (0 : Int), (0 : Int), ((([(48 : UInt8), (49 : UInt8), (50 : UInt8), (51 : UInt8), (52 : UInt8), (53 : UInt8), (54 : UInt8), (55 : UInt8), (56 : UInt8), (57 : UInt8), (97 : UInt8), (98 : UInt8), (99 : UInt8), (100 : UInt8), (101 : UInt8), (102 : UInt8), (103 : UInt8), (104 : UInt8), (105 : UInt8), (106 : UInt8), (107 : UInt8), (108 : UInt8), (109 : UInt8), (110 : UInt8), (111 : UInt8), (112 : UInt8), (113 : UInt8), (114 : UInt8), (115 : UInt8), (116 : UInt8), (117 : UInt8), (118 : UInt8), (119 : UInt8), (120 : UInt8), (121 : UInt8), (122 : UInt8)].getD (Int.fdiv (Int.fdiv (Int.fdiv u1 (Int.pow (2 : Int) (if ((Go.IntKind.wrap .u64 r1_0).toNat ≤ 64) then (Go.IntKind.wrap .u64 r1_0).toNat else 64))) (Int.pow (2 : Int) (if ((Go.IntKind.wrap .u64 r1_0).toNat ≤ 64) then (Go.IntKind.wrap .u64 r1_0).toNat else 64))) (Int.pow (2 : Int) (if ((Go.IntKind.wrap .u64 r1_0).toNat ≤ 64) then (Go.IntKind.wrap .u64 r1_0).toNat else 64))).toNat (0 : UInt8)).toNat : Nat) : Int), ((([(48 : UInt8), (49 : UInt8), (50 : UInt8), (51 : UInt8), (52 : UInt8), (53 : UInt8), (54 : UInt8), (55 : UInt8), (56 : UInt8), (57 : UInt8), (97 : UInt8), (98 : UInt8), (99 : UInt8), (100 : UInt8), (101 : UInt8), (102 : UInt8), (103 : UInt8), (104 : UInt8), (105 : UInt8), (106 : UInt8), (107 : UInt8), (108 : UInt8), (109 : UInt8), (110 : UInt8), (111 : UInt8), (112 : UInt8), (113 : UInt8), (114 : UInt8), (115 : UInt8), (116 : UInt8), (117 : UInt8), (118 : UInt8), (119 : UInt8), (120 : UInt8), (121 : UInt8), (122 : UInt8)].getD (Go.IntKind.wrap .u64 (((BitVec.toNat (BitVec.and (BitVec.ofInt 64 (Int.fdiv (Int.fdiv u1 (Int.pow (2 : Int) (if ((Go.IntKind.wrap .u64 r1_0).toNat ≤ 64) then (Go.IntKind.wrap .u64 r1_0).toNat else 64))) (Int.pow (2 : Int) (if ((Go.IntKind.wrap .u64 r1_0).toNat ≤ 64) then (Go.IntKind.wrap .u64 r1_0).toNat else 64)))) (BitVec.ofInt 64 (15 : Int)))) : Nat) : Int)).toNat (0 : UInt8)).toNat : Nat) : Int), ((([(48 : UInt8), (49 : UInt8), (50 : UInt8), (51 : UInt8), (52 : UInt8), (53 : UInt8), (54 : UInt8), (55 : UInt8), (56 : UInt8), (57 : UInt8), (97 : UInt8), (98 : UInt8), (99 : UInt8), (100 : UInt8), (101 : UInt8), (102 : UInt8), (103 : UInt8), (104 : UInt8), (105 : UInt8), (106 : UInt8), (107 : UInt8), (108 : UInt8), (109 : UInt8), (110 : UInt8), (111 : UInt8), (112 : UInt8), (113 : UInt8), (114 : UInt8), (115 : UInt8), (116 : UInt8), (117 : UInt8), (118 : UInt8), (119 : UInt8), (120 : UInt8), (121 : UInt8), (122 : UInt8)].getD (Go.IntKind.wrap .u64 (((BitVec.toNat (BitVec.and (BitVec.ofInt 64 (Int.fdiv u1 (Int.pow (2 : Int) (if ((Go.IntKind.wrap .u64 r1_0).toNat ≤ 64) then (Go.IntKind.wrap .u64 r1_0).toNat else 64)))) (BitVec.ofInt 64 (15 : Int)))) : Nat) : Int)).toNat (0 : UInt8)).toNat : Nat) : Int), ((([(48 : UInt8), (49 : UInt8), (50 : UInt8), (51 : UInt8), (52 : UInt8), (53 : UInt8), (54 : UInt8), (55 : UInt8), (56 : UInt8), (57 : UInt8), (97 : UInt8), (98 : UInt8), (99 : UInt8), (100 : UInt8), (101 : UInt8), (102 : UInt8), (103 : UInt8), (104 : UInt8), (105 : UInt8), (106 : UInt8), (107 : UInt8), (108 : UInt8), (109 : UInt8), (110 : UInt8), (111 : UInt8), (112 : UInt8), (113 : UInt8), (114 : UInt8), (115 : UInt8), (116 : UInt8), (117 : UInt8), (118 : UInt8), (119 : UInt8), (120 : UInt8), (121 : UInt8), (122 : UInt8)].getD (Go.IntKind.wrap .u64 (((BitVec.toNat (BitVec.and (BitVec.ofInt 64 u1) (BitVec.ofInt 64 (15 : Int)))) : Nat) : Int)).toNat (0 : UInt8)).toNat : Nat) : Int)]))), [])
               else
                none
             else
              none
            else
             none
           else
            if ((decide ((0 : Int) ≤ (Int.fdiv (Int.fdiv u1 (Int.pow (2 : Int) (if ((Go.IntKind.wrap .u64 r1_0).toNat ≤ 64) then (Go.IntKind.wrap .u64 r1_0).toNat else 64))) (Int.pow (2 : Int) (if ((Go.IntKind.wrap .u64 r1_0).toNat ≤ 64) then (Go.IntKind.wrap .u64 r1_0).toNat else 64))))) && (decide ((Int.fdiv (Int.fdiv u1 (Int.pow (2 : Int) (if ((Go.IntKind.wrap .u64 r1_0).toNat ≤ 64) then (Go.IntKind.wrap .u64 r1_0).toNat else 64))) (Int.pow (2 : Int) (if ((Go.IntKind.wrap .u64 r1_0).toNat ≤ 64) then (Go.IntKind.wrap .u64 r1_0).toNat else 64))) < (36 : Int)))) = true then
             some ((Go.Sx.textOf (List.drop 62 (List.take 65 [(0 : Int), (0 : Int), (0 : Int), (0 : Int), (0 : Int), (0 : Int), (0 : Int), (0 : Int), (0 : Int), (0 : Int), (0 : Int), (0 : Int), (0 : Int), (0 : Int), (0 : Int), (0 : Int), (0 : Int), (0 : Int), (0 : Int), (0 : Int), (0 : Int), (0 : Int), (0 : Int), (0 : Int), (0 : Int), (0 : Int), (0 : Int), (0 : Int), (0 : Int), (0 : Int), (0 : Int), (0 : Int), (0 : Int), (0 : Int), (0 : Int), (0 : Int), (0 : Int), (0 : Int), (0 : Int), (0 : Int), (0 : Int), (0 : Int), (0 : Int), (0 : Int), (0 : Int), (0 : Int), (0 : Int), (0 : Int), (0 : Int), (0 : Int), (0 : Int), (0 : Int), (0 : Int), (0 : Int), (0 : Int), (0 : Int), (0 : Int), (0 : Int), (0 : Int), (0 : Int), (0 : Int), (0 : Int), ((([(48 : UInt8), (49 : UInt8), (50 : UInt8), (51 : UInt8), (52 : UInt8), (53 : UInt8), (54 : UInt8), (55 : UInt8), (56 : UInt8), (57 : UInt8), (97 : UInt8), (98 : UInt8), (99 : UInt8), (100 : UInt8), (101 : UInt8), (102 : UInt8), (103 : UInt8), (104 : UInt8), (105 : UInt8), (106 : UInt8), (107 : UInt8), (108 : UInt8), (109 : UInt8), (110 : UInt8), (111 : UInt8), (112 : UInt8), (113 : UInt8), (114 : UInt8), (115 : UInt8), (116 : UInt8), (117 : UInt8), (118 : UInt8), (119 : UInt8), (120 : UInt8), (121 : UInt8), (122 : UInt8)].getD (Int.fdiv (Int.fdiv u1 (Int.pow (2 : Int) (if ((Go.IntKind.wrap .u64 r1_0).toNat ≤ 64) then (Go.IntKind.wrap .u64 r1_0).toNat else 64))) (Int.pow (2 : Int) (if ((Go.IntKind.wrap .u64 r1_0).toNat ≤ 64) then (Go.IntKind.wrap .u64 r1_0).toNat else 64))).toNat (0 : UInt8)).toNat : Nat) : Int), ((([(48 : UInt8), (49 : UInt8), (50 : UInt8), (51 : UInt8), (52 : UInt8), (53 : UInt8), (54 : UInt8), (55 : UInt8), (56 : UInt8), (57 : UInt8), (97 : UInt8), (98 : UInt8), (99 : UInt8), (100 : UInt8), (101 : UInt8), (102 : UInt8), (103 : UInt8), (104 : UInt8), (105 : UInt8), (106 : UInt8), (107 : UInt8), (108 : UInt8), (109 : UInt8), (110 : UInt8), (111 : UInt8), (112 : UInt8), (113 : UInt8), (114 : UInt8), (115 : UInt8), (116 : UInt8), (117 : UInt8), (118 : UInt8), (119 : UInt8), (120 : UInt8), (121 : UInt8), (122 : UInt8)].getD (Go.IntKind.wrap .u64 (((BitVec.toNat (BitVec.and (BitVec.ofInt 64 (Int.fdiv u1 (Int.pow (2 : Int) (if ((Go.IntKind.wrap .u64 r1_0).toNat ≤ 64) then (Go.IntKind.wrap .u64 r1_0).toNat else 64)))) (BitVec.ofInt 64 (15 : Int)))) : Nat) : Int)).toNat (0 : UInt8)).toNat : Nat) : Int), ((([(48 : UInt8), (49 : UInt8), (50 : UInt8), (51 : UInt8), (52 : UInt8), (53 : UInt8), (54 : UInt8), (55 : UInt8), (56 : UInt8), (57 : UInt8), (97 : UInt8), (98 : UInt8), (99 : UInt8), (100 : UInt8), (101 : UInt8), (102 : UInt8), (103 : UInt8), (104 : UInt8), (105 : UInt8), (106 : UInt8), (107 : UInt8), (108 : UInt8), (109 : UInt8), (110 : UInt8), (111 : UInt8), (112 : UInt8), (113 : UInt8), (114 : UInt8), (115 : UInt8), (116 : UInt8), (117 : UInt8), (118 : UInt8), (119 : UInt8), (120 : UInt8), (121 : UInt8), (122 : UInt8)].getD (Go.IntKind.wrap .u64 (((BitVec.toNat (BitVec.and (BitVec.ofInt 64 u1) (BitVec.ofInt 64 (15 : Int)))) : Nat) : Int)).toNat (0 : UInt8)).toNat : Nat) : Int)]))), [])
            else
             none
          else
           none
         else
          none
        else
         if ((decide ((0 : Int) ≤ (Int.fdiv u1 (Int.pow (2 : Int) (if ((Go.IntKind.wrap .u64 r1_0).toNat ≤ 64) then (Go.IntKind.wrap .u64 r1_0).toNat else 64))))) && (decide ((Int.fdiv u1 (Int.pow (2 : Int) (if ((Go.IntKind.wrap .u64 r1_0).toNat ≤ 64) then (Go.IntKind.wrap .u64 r1_0).toNat else 64))) < (36 : Int)))) = true then
          some ((Go.Sx.textOf (List.drop 63 (List.take 65 [(0 : Int), (0 : Int), (0 : Int), (0 : Int), (0 : Int), (0 : Int), (0 : Int), (0 : Int), (0 : Int), (0 : Int), (0 : Int), (0 : Int), (0 : Int), (0 : Int), (0 : Int), (0 : Int), (0 : Int), (0 : Int), (0 : Int), (0 : Int), (0 : Int), (0 : Int), (0 : Int), (0 : Int), (0 : Int), (0 : Int), (0 : Int), (0 : Int), (0 : Int), (0 : Int), (0 : Int), (0 : Int), (0 : Int), (0 : Int), (0 : Int), (0 : Int), (0 : Int), (0 : Int), (0 : Int), (0 : Int), (0 : Int), (0 : Int), (0 : Int), (0 : Int), (0 : Int), (0 : Int), (0 : Int), (0 : Int), (0 : Int), (0 : Int), (0 : Int), (0 : Int), (0 : Int), (0 : Int), (0 : Int), (0 : Int), (0 : Int), (0 : Int), (0 : Int), (0 : Int), (0 : Int), (0 : Int), (0 : Int), ((([(48 : UInt8), (49 : UInt8), (50 : UInt8), (51 : UInt8), (52 : UInt8), (53 : UInt8), (54 : UInt8), (55 : UInt8), (56 : UInt8), (57 : UInt8), (97 : UInt8), (98 : UInt8), (99 : UInt8), (100 : UInt8), (101 : UInt8), (102 : UInt8), (103 : UInt8), (104 : UInt8), (105 : UInt8), (106 : UInt8), (107 : UInt8), (108 : UInt8), (109 : UInt8), (110 : UInt8), (111 : UInt8), (112 : UInt8), (113 : UInt8), (114 : UInt8), (115 : UInt8), (116 : UInt8), (117 : UInt8), (118 : UInt8), (119 : UInt8), (120 : UInt8), (121 : UInt8), (122 : UInt8)].getD (Int.fdiv u1 (Int.pow (2 : Int) (if ((Go.IntKind.wrap .u64 r1_0).toNat ≤ 64) then (Go.IntKind.wrap .u64 r1_0).toNat else 64))).toNat (0 : UInt8)).toNat : Nat) : Int), ((([(48 : UInt8), (49 : UInt8), (50 : UInt8), (51 : UInt8), (52 : UInt8), (53 : UInt8), (54 : UInt8), (55 : UInt8), (56 : UInt8), (57 : UInt8), (97 : UInt8), (98 : UInt8), (99 : UInt8), (100 : UInt8), (101 : UInt8), (102 : UInt8), (103 : UInt8), (104 : UInt8), (105 : UInt8), (106 : UInt8), (107 : UInt8), (108 : UInt8), (109 : UInt8), (110 : UInt8), (111 : UInt8), (112 : UInt8), (113 : UInt8), (114 : UInt8), (115 : UInt8), (116 : UInt8), (117 : UInt8), (118 : UInt8), (119 : UInt8), (120 : UInt8), (121 : UInt8), (122 : UInt8)].getD (Go.IntKind.wrap .u64 (((BitVec.toNat (BitVec.and (BitVec.ofInt 64 u1) (BitVec.ofInt 64 (15 : Int)))) : Nat) : Int)).toNat (0 : UInt8)).toNat : Nat) : Int)]))), [])
         else
          none
       else
        none
      else
       none
     else
      if ((decide ((0 : Int) ≤ u1)) && (decide (u1 < (36 : Int)))) = true then
       some ((Go.Sx.textOf (List.drop 64 (List.take 65 [(0 : Int), (0 : Int), (0 : Int), (0 : Int), (0 : Int), (0 : Int), (0 : Int), (0 : Int), (0 : Int), (0 : Int), (0 : Int), (0 : Int), (0 : Int), (0 : Int), (0 : Int), (0 : Int), (0 : Int), (0 : Int), (0 : Int), (0 : Int), (0 : Int), (0 : Int), (0 : Int), (0 : Int), (0 : Int), (0 : Int), (0 : Int), (0 : Int), (0 : Int), (0 : Int), (0 : Int), (0 : Int), (0 : Int), (0 : Int), (0 : Int), (0 : Int), (0 : Int), (0 : Int), (0 : Int), (0 : Int), (0 : Int), (0 : Int), (0 : Int), (0 : Int), (0 : Int), (0 : Int), (0 : Int), (0 : Int), (0 : Int), (0 : Int), (0 : Int), (0 : Int), (0 : Int), (0 : Int), (0 : Int), (0 : Int), (0 : Int), (0 : Int), (0 : Int), (0 : Int), (0 : Int), (0 : Int), (0 : Int), (0 : Int), ((([(48 : UInt8), (49 : UInt8), (50 : UInt8), (51 : UInt8), (52 : UInt8), (53 : UInt8), (54 : UInt8), (55 : UInt8), (56 : UInt8), (57 : UInt8), (97 : UInt8), (98 : UInt8), (99 : UInt8), (100 : UInt8), (101 : UInt8), (102 : UInt8), (103 : UInt8), (104 : UInt8), (105 : UInt8), (106 : UInt8), (107 : UInt8), (108 : UInt8), (109 : UInt8), (110 : UInt8), (111 : UInt8), (112 : UInt8), (113 : UInt8), (114 : UInt8), (115 : UInt8), (116 : UInt8), (117 : UInt8), (118 : UInt8), (119 : UInt8), (120 : UInt8), (121 : UInt8), (122 : UInt8)].getD u1.toNat (0 : UInt8)).toNat : Nat) : Int)]))), [])
      else
       none
   else
    if (decide (u1 ≥ (16 : Int))) = true then
     if ((decide ((0 : Int) ≤ (Go.IntKind.wrap .u64 (u1 - (Go.IntKind.wrap .u64 ((Go.IntKind.wrap .u64 (Int.tdiv u1 (16 : Int))) * (16 : Int))))))) && (decide ((Go.IntKind.wrap .u64 (u1 - (Go.IntKind.wrap .u64 ((Go.IntKind.wrap .u64 (Int.tdiv u1 (16 : Int))) * (16 : Int))))) < (36 : Int)))) = true then
      if (decide ((Go.IntKind.wrap .u64 (Int.tdiv u1 (16 : Int))) ≥ (16 : Int))) = true then
       if ((decide ((0 : Int) ≤ (Go.IntKind.wrap .u64 ((Go.IntKind.wrap .u64 (Int.tdiv u1 (16 : Int))) - (Go.IntKind.wrap .u64 ((Go.IntKind.wrap .u64 (Int.tdiv (Go.IntKind.wrap .u64 (Int.tdiv u1 (16 : Int))) (16 : Int))) * (16 : Int))))))) && (decide ((Go.IntKind.wrap .u64 ((Go.IntKind.wrap .u64 (Int.tdiv u1 (16 : Int))) - (Go.IntKind.wrap .u64 ((Go.IntKind.wrap .u64 (Int.tdiv (Go.IntKind.wrap .u64 (Int.tdiv u1 (16 : Int))) (16 : Int))) * (16 : Int))))) < (36 : Int)))) = true then
        if (decide ((Go.IntKind.wrap .u64 (Int.tdiv (Go.IntKind.wrap .u64 (Int.tdiv u1 (16 : Int))) (16 : Int))) ≥ (16 : Int))) = true then
         if ((decide ((0 : Int) ≤ (Go.IntKind.wrap .u64 ((Go.IntKind.wrap .u64 (Int.tdiv (Go.IntKind.wrap .u64 (Int.tdiv u1 (16 : Int))) (16 : Int))) - (Go.IntKind.wrap .u64 ((Go.IntKind.wrap .u64 (Int.tdiv (Go.IntKind.wrap .u64 (Int.tdiv (Go.IntKind.wrap .u64 (Int.tdiv u1 (16 : Int))) (16 : Int))) (16 : Int))) * (16 : Int))))))) && (decide ((Go.IntKind.wrap .u64 ((Go.IntKind.wrap .u64 (Int.tdiv (Go.IntKind.wrap .u64 (Int.tdiv u1 (16 : Int))) (16 : Int))) - (Go.IntKind.wrap .u64 ((Go.IntKind.wrap .u64 (Int.tdiv (Go.IntKind.wrap .u64 (Int.tdiv (Go.IntKind.wrap .u64 (Int.tdiv u1 (16 : Int))) (16 : Int))) (16 : Int))) * (16 : Int))))) < (36 : Int)))) = true then
          if (decide ((Go.IntKind.wrap .u64 (Int.tdiv (Go.IntKind.wrap .u64 (Int.tdiv (Go.IntKind.wrap .u64 (Int.tdiv u1 (16 : Int))) (16 : Int))) (16 : Int))) ≥ (16 : Int))) = true then
           if ((decide ((0 : Int) ≤ (Go.IntKind.wrap .u64 ((Go.IntKind.wrap .u64 (Int.tdiv (Go.IntKind.wrap .u64 (Int.tdiv (Go.IntKind.wrap .u64 (Int.tdiv u1 (16 : Int))) (16 : Int))) (16 : Int))) - (Go.IntKind.wrap .u64 ((Go.IntKind.wrap .u64 (Int.tdiv (Go.IntKind.wrap .u64 (Int.tdiv (Go.IntKind.wrap .u64 (Int.tdiv (Go.IntKind.wrap .u64 (Int.tdiv u1 (16 : Int))) (16 : Int))) (16 : Int))) (16 : Int))) * (16 : Int))))))) && (decide ((Go.IntKind.wrap .u64 ((Go.IntKind.wrap .u64 (Int.tdiv (Go.IntKind.wrap .u64 (Int.tdiv (Go.IntKind.wrap .u64 (Int.tdiv u1 (16 : Int))) (16 : Int))) (16 : Int))) - (Go.IntKind.wrap .u64 ((Go.IntKind.wrap .u64 (Int.tdiv (Go.IntKind.wrap .u64 (Int.tdiv (Go.IntKind.wrap .u64 (Int.tdiv (Go.IntKind.wrap .u64 (Int.tdiv u1 (16 : Int))) (16 : Int))) (16 : Int))) (16 : Int))) * (16 : Int))))) < (36 : Int)))) = true then
            if (decide ((Go.IntKind.wrap .u64 (Int.tdiv (Go.IntKind.wrap .u64 (Int.tdiv (Go.IntKind.wrap .u64 (Int.tdiv (Go.IntKind.wrap .u64 (Int.tdiv u1 (16 : Int))) (16 : Int))) (16 : Int))) (16 : Int))) ≥ (16 : Int))) = true then
             if ((decide ((0 : Int) ≤ (Go.IntKind.wrap .u64 ((Go.IntKind.wrap .u64 (Int.tdiv (Go.IntKind.wrap .u64 (Int.tdiv (Go.IntKind.wrap .u64 (Int.tdiv (Go.IntKind.wrap .u64 (Int.tdiv u1 (16 : Int))) (16 : Int))) (16 : Int))) (16 : Int))) - (Go.IntKind.wrap .u64 ((Go.IntKind.wrap .u64 (Int.tdiv (Go.IntKind.wrap .u64 (Int.tdiv (Go.IntKind.wrap .u64 (Int.tdiv (Go.IntKind.wrap .u64 (Int.tdiv (Go.IntKind.wrap .u64 (Int.tdiv u1 (16 : Int))) (16 : Int))) (16 : Int))) (16 : Int))) (16 : Int))) * (16 : Int))))))) && (decide ((Go.IntKind.wrap .u64 ((Go.IntKind.wrap .u64 (Int.tdiv (Go.IntKind.wrap .u64 (Int.tdiv (Go.IntKind.wrap .u64 (Int.tdiv (Go.IntKind.wrap .u64 (Int.tdiv u1 (16 : Int))) (16 : Int))) (16 : Int))) (16 : Int))) - (Go.IntKind.wrap .u64 ((Go.IntKind.wrap .u64 (Int.tdiv (Go.IntKind.wrap .u64 (Int.tdiv (Go.IntKind.wrap .u64 (Int.tdiv (Go.IntKind.wrap .u64 (Int.tdiv (Go.IntKind.wrap .u64 (Int.tdiv u1 (16 : Int))) (16 : Int))) (16 : Int))) (16 : Int))) (16 : Int))) * (16 : Int))))) < (36 : Int)))) = true then
              if (decide ((Go.IntKind.wrap .u64 (Int.tdiv (Go.IntKind.wrap .u64 (Int.tdiv (Go.IntKind.wrap .u64 (Int.tdiv (Go.IntKind.wrap .u64 (Int.tdiv (Go.IntKind.wrap .u64 (Int.tdiv u1 (16 : Int))) (16 : Int))) (16 : Int))) (16 : Int))) (16 : Int))) ≥ (16 : Int))) = true then
               if ((decide ((0 : Int) ≤ (Go.IntKind.wrap .u64 ((Go.IntKind.wrap .u64 (Int.tdiv (Go.IntKind.wrap .u64 (Int.tdiv (Go.IntKind.wrap .u64 (Int.tdiv (Go.IntKind.wrap .u64 (Int.tdiv (Go.IntKind.wrap .u64 (Int.tdiv u1 (16 : Int))) (16 : Int))) (16 : Int))) (16 : Int))) (16 : Int))) - (Go.IntKind.wrap .u64 ((Go.IntKind.wrap .u64 (Int.tdiv (Go.IntKind.wrap .u64 (Int.tdiv (Go.IntKind.wrap .u64 (Int.tdiv (Go.IntKind.wrap .u64 (Int.tdiv (Go.IntKind.wrap .u64 (Int.tdiv (Go.IntKind.wrap .u64 (Int.tdiv u1 (16 : Int))) (16 : Int))) (16 : Int))) (16 : Int))) (16 : Int))) (16 : Int))) * (16 : Int))))))) && (decide ((Go.IntKind.wrap .u64 ((Go.IntKind.wrap .u64 (Int.tdiv (Go.IntKind.wrap .u64 (Int.tdiv (Go.IntKind.wrap .u64 (Int.tdiv (Go.IntKind.wrap .u64 (Int.tdiv (Go.IntKind.wrap .u64 (Int.tdiv u1 (16 : Int))) (16 : Int))) (16 : Int))) (16 : Int))) (16 : Int))) - (Go.IntKind.wrap .u64 ((Go.IntKind.wrap .u64 (Int.tdiv (Go.IntKind.wrap .u64 (Int.tdiv (Go.IntKind.wrap .u64 (Int.tdiv (Go.IntKind.wrap .u64 (Int.tdiv (Go.IntKind.wrap .u64 (Int.tdiv (Go.IntKind.wrap .u64 (Int.tdiv u1 (16 : Int))) (16 : Int))) (16 : Int))) (16 : Int))) (16 : Int))) (16 : Int))) * (16 : Int))))) < (36 : Int)))) = true then
                none
               else
                none
              else
               if ((decide ((0 : Int) ≤ (Go.IntKind.wrap .u64 (Int.tdiv (Go.IntKind.wrap .u64 (Int.tdiv (Go.IntKind.wrap .u64 (Int.tdiv (Go.IntKind.wrap .u64 (Int.tdiv (Go.IntKind.wrap .u64 (Int.tdiv u1 (16 : Int))) (16 : Int))) (16 : Int))) (16 : Int))) (16 : Int))))) && (decide ((Go.IntKind.wrap .u64 (Int.tdiv (Go.IntKind.wrap .u64 (Int.tdiv (Go.IntKind.wrap .u64 (Int.tdiv (Go.IntKind.wrap .u64 (Int.tdiv (Go.IntKind.wrap .u64 (Int.tdiv u1 (16 : Int))) (16 : Int))) (16 : Int))) (16 : Int))) (16 : Int))) < (36 : Int)))) = true then
                some ((Go.Sx.textOf (List.drop 59 (List.take 65 [(0 : Int), (0 : Int), (0 : Int), (0 : Int), (0 : Int), (0 : Int), (0 : Int), (0 : Int), (0 : Int), (0 : Int), (0 : Int), (0 : Int), (0 : Int), (0 : Int), (0 : Int), (0 : Int), (0 : Int), (0 : Int), (0 : Int), (0 : Int), (0 : Int), (0 : Int), (0 : Int), (0 : Int), (0 : Int), (0 : Int), (0 : Int), (0 : Int), (0 : Int), (0 : Int), (0 : Int), (0 : Int), (0 : Int), (0 : Int), (0 : Int), (0 : Int), (0 : Int), (0 : Int), (0 : Int), (0 : Int), (0 : Int), (0 : Int), (0 : Int), (0 : Int), (0 : Int), (0 : Int), (0 : Int), (0 : Int), (0 : Int), (0 : Int), (0 : Int), (0 : Int), (0 : Int), (0 : Int), (0 : Int), (0 : Int), (0 : Int), (0 : Int), (0 : Int), ((([(48 : UInt8), (49 : UInt8), (50 : UInt8), (51 : UInt8), (52 : UInt8), (53 : UInt8), (54 : UInt8), (55 : UInt8), (56 : UInt8), (57 : UInt8), (97 : UInt8), (98 : UInt8), (99 : UInt8), (100 : UInt8), (101 : UInt8), (102 : UInt8), (103 : UInt8), (104 : UInt8), (105 : UInt8), (106 : UInt8), (107 : UInt8), (108 : UInt8), (109 : UInt8), (110 : UInt8), (111 : UInt8), (112 : UInt8), (113 : UInt8), (114 : UInt8), (115 : UInt8), (116 : UInt8), (117 : UInt8), (118 : UInt8), (119 : UInt8), (120 : UInt8), (121 : UInt8), (122 : UInt8)].getD (Go.IntKind.wrap .u64 (Int.tdiv (Go.IntKind.wrap .u64 (Int.tdiv (Go.IntKind.wrap .u64 (Int.tdiv (Go.IntKind.wrap .u64 (Int.tdiv (Go.IntKind.wrap .u64 (Int.tdiv u1 (16 : Int))) (16 : Int))) (16 : Int))) (16 : Int))) (16 : Int))).toNat (0 : UInt8)).toNat : Nat) : Int), ((([(48 : UInt8), (49 : UInt8), (50 : UInt8), (51 : UInt8), (52 : UInt8), (53 : UInt8), (54 : UInt8), (55 : UInt8), (56 : UInt8), (57 : UInt8), (97 : UInt8), (98 : UInt8), (99 : UInt8), (100 : UInt8), (101 : UInt8), (102 : UInt8), (103 : UInt8), (104 : UInt8), (105 : UInt8), (106 : UInt8), (107 : UInt8), (108 : UInt8), (109 : UInt8), (110 : UInt8), (111 : UInt8), (112 : UInt8), (113 : UInt8), (114 : UInt8), (115 : UInt8), (116 : UInt8), (117 : UInt8), (118 : UInt8), (119 : UInt8), (120 : UInt8), (121 : UInt8), (122 : UInt8)].getD (Go.IntKind.wrap .u64 ((Go.IntKind.wrap .u64 (Int.tdiv (Go.IntKind.wrap .u64 (Int.tdiv (Go.IntKind.wrap .u64 (Int.tdiv (Go.IntKind.wrap .u64 (Int.tdiv u1 (16 : Int))) (16 : Int))) (16 : Int))) (16 : Int))) - (Go.IntKind.wrap .u64 ((Go.IntKind.wrap .u64 (Int.tdiv (Go.IntKind.wrap .u64 (Int.tdiv (Go.IntKind.wrap .u64 (Int.tdiv (Go.IntKind.wrap .u64 (Int.tdiv (Go.IntKind.wrap .u64 (Int.tdiv u1 (16 : Int))) (16 : Int))) (16 : Int))) (16 : Int))) (16 : Int))) * (16 : Int))))).toNat (0 : UInt8)).toNat : Nat) : Int), ((([(48 : UInt8), (49 : UInt8), (50 : UInt8), (51 : UInt8), (52 : UInt8), (53 : UInt8), (54 : UInt8), (55 : UInt8), (56 : UInt8), (57 : UInt8), (97 : UInt8), (98 : UInt8), (99 : UInt8), (100 : UInt8), (101 : UInt8), (102 : UInt8), (103 : UInt8), (104 : UInt8), (105 : UInt8), (106 : UInt8), (107 : UInt8), (108 : UInt8), (109 : UInt8), (110 : UInt8), (111 : UInt8), (112 : UInt8), (113 : UInt8), (114 : UInt8), (115 : UInt8), (116 : UInt8), (117 : UInt8), (118 : UInt8), (119 : UInt8), (120 : UInt8), (121 : UInt8), (122 : UInt8)].getD (Go.IntKind.wrap .u64 ((Go.IntKind.wrap .u64 (Int.tdiv (Go.IntKind.wrap .u64 (Int.tdiv (Go.IntKind.wrap .u64 (Int.tdiv u1 (16 : Int))) (16 : Int))) (16 : Int))) - (Go.IntKind.wrap .u64 ((Go.IntKind.wrap .u64 (Int.tdiv (Go.IntKind.wrap .u64 (Int.tdiv (Go.IntKind.wrap .u64 (Int.tdiv (Go.IntKind.wrap .u64 (Int.tdiv u1 (16 : Int))) (16 : Int))) (16 : Int))) (16 : Int))) * (16 : Int))))).toNat (0 : UInt8)).toNat : Nat) : Int), ((([(48 : UInt8), (49 : UInt8), (50 : UInt8), (51 : UInt8), (52 : UInt8), (53 : UInt8), (54 : UInt8), (55 : UInt8), (56 : UInt8), (57 : UInt8), (97 : UInt8), (98 : UInt8), (99 : UInt8), (100 : UInt8), (101 : UInt8), (102 : UInt8), (103 : UInt8), (104 : UInt8), (105 : UInt8), (106 : UInt8), (107 : UInt8), (108 : UInt8), (109 : UInt8), (110 : UInt8), (111 : UInt8), (112 : UInt8), (113 : UInt8), (114 : UInt8), (115 : UInt8), (116 : UInt8), (117 : UInt8), (118 : UInt8), (119 : UInt8), (120 : UInt8), (121 : UInt8), (122 : UInt8)].getD (Go.IntKind.wrap .u64 ((Go.IntKind.wrap .u64 (Int.tdiv (Go.IntKind.wrap .u64 (Int.tdiv u1 (16 : Int))) (16 : Int))) - (Go.IntKind.wrap .u64 ((Go.IntKind.wrap .u64 (Int.tdiv (Go.IntKind.wrap .u64 (Int.tdiv (Go.IntKind.wrap .u64 (Int.tdiv u1 (16 : Int))) (16 : Int))) (16 : Int))) * (16 : Int))))).toNat (0 : UInt8)).toNat : Nat) : Int), ((([(48 : UInt8), (49 : UInt8), (50 : UInt8), (51 : UInt8), (52 : UInt8), (53 : UInt8), (54 : UInt8), (55 : UInt8), (56 : UInt8), (57 : UInt8), (97 : UInt8), (98 : UInt8), (99 : UInt8), (100 : UInt8), (101 : UInt8), (102 : UInt8), (103 : UInt8), (104 : UInt8), (105 : UInt8), (106 : UInt8), (107 : UInt8), (108 : UInt8), (109 : UInt8), (110 : UInt8), (111 : UInt8), (112 : UInt8), (113 : UInt8), (114 : UInt8), (115 : UInt8), (116 : UInt8), (117 : UInt8), (118 : UInt8), (119 : UInt8), (120 : UInt8), (121 : UInt8), (122 : UInt8)].getD (Go.IntKind.wrap .u64 ((Go.IntKind.wrap .u64 (Int.tdiv u1 (16 : Int))) - (Go.IntKind.wrap .u64 ((Go.IntKind.wrap .u64 (Int.tdiv (Go.IntKind.wrap .u64 (Int.tdiv u1 (16 : Int))) (16 : Int))) * (16 : Int))))).toNat (0 : UInt8)).toNat : Nat) : Int), ((([(48 : UInt8), (49 : UInt8), (50 : UInt8), (51 : UInt8), (52 : UInt8), (53 : UInt8), (54 : UInt8), (55 : UInt8), (56 : UInt8), (57 : UInt8), (97 : UInt8), (98 : UInt8), (99 : UInt8), (100 : UInt8), (101 : UInt8), (102 : UInt8), (103 : UInt8), (104 : UInt8), (105 : UInt8), (106 : UInt8), (107 : UInt8), (108 : UInt8), (109 : UInt8), (110 : UInt8), (111 : UInt8), (112 : UInt8), (113 : UInt8), (114 : UInt8), (115 : UInt8), (116 : UInt8), (117 : UInt8), (118 : UInt8), (119 : UInt8), (120 : UInt8), (121 : UInt8), (122 : UInt8)].getD (Go.IntKind.wrap .u64 (u1 - (Go.IntKind.wrap .u64 ((Go.IntKind.wrap .u64 (Int.tdiv u1 (16 : Int))) * (16 : Int))))).toNat (0 : UInt8)).toNat : Nat) : Int)]))), [])
               else
                none
             else
              none
            else
             if ((decide ((0 : Int) ≤ (Go.IntKind.wrap .u64 (Int.tdiv (Go.IntKind.wrap .u64 (Int.tdiv (Go.IntKind.wrap .u64 (Int.tdiv (Go.IntKind.wrap .u64 (Int.tdiv u1 (16 : Int))) (16 : Int))) (16 : Int))) (16 : Int))))) && (decide ((Go.IntKind.wrap .u64 (Int.tdiv (Go.IntKind.wrap .u64 (Int.tdiv (Go.IntKind.wrap .u64 (Int.tdiv (Go.IntKind.wrap .u64 (Int.tdiv u1 (16 : Int))) (16 : Int))) (16 : Int))) (16 : Int))) < (36 : Int)))) = true then
              some ((Go.Sx.textOf (List.drop 60 (List.take 65 [(0 : Int), (0 : Int), (0 : Int), (0 : Int), (0 : Int), (0 : Int), (0 : Int), (0 : Int), (0 : Int), (0 : Int), (0 : Int), (0 : Int), (0 : Int), (0 : Int), (0 : Int), (0 : Int), (0 : Int), (0 : Int), (0 : Int), (0 : Int), (0 : Int), (0 : Int), (0 : Int), (0 : Int), (0 : Int), (0 : Int), (0 : Int), (0 : Int), (0 : Int), (0 : Int), (0 : Int), (0 : Int), (0 : Int), (0 : Int), (0 : Int), (0 : Int), (0 : Int), (0 : Int), (0 : Int), (0 : Int), (0 : Int), (0 : Int), (0 : Int), (0 : Int), (0 : Int), (0 : Int), (0 : Int), (0 : Int), (0 : Int), (0 : Int), (0 : Int), (0 : Int), (0 : Int), (0 : Int), (0 : Int), (0 : Int), (0 : Int), (0 : Int), (0 : Int), (0 : Int), ((([(48 : UInt8), (49 : UInt8), (50 : UInt8), (51 : UInt8), (52 : UInt8), (53 : UInt8), (54 : UInt8), (55 : UInt8), (56 : UInt8), (57 : UInt8), (97 : UInt8), (98 : UInt8), (99 : UInt8), (100 : UInt8), (101 : UInt8), (102 : UInt8), (103 : UInt8), (104 : UInt8), (105 : UInt8), (106 : UInt8), (107 : UInt8), (108 : UInt8), (109 : UInt8), (110 : UInt8), (111 : UInt8), (112 : UInt8), (113 : UInt8), (114 : UInt8), (115 : UInt8), (116 : UInt8), (117 : UInt8), (118 : UInt8), (119 : UInt8), (120 : UInt8), (121 : UInt8), (122 : UInt8)].getD (Go.IntKind.wrap .u64 (Int.tdiv (Go.IntKind.wrap .u64 (Int.tdiv (Go.IntKind.wrap .u64 (Int.tdiv (Go.IntKind.wrap .u64 (Int.tdiv u1 (16 : Int))) (16 : Int))) (16 : Int))) (16 : Int))).toNat (0 : UInt8)).toNat : Nat) : Int), ((([(48 : UInt8), (49 : UInt8), (50 : UInt8), (51 : UInt8), (52 : UInt8), (53 : UInt8), (54 : UInt8), (55 : UInt8), (56 : UInt8), (57 : UInt8), (97 : UInt8), (98 : UInt8), (99 : UInt8), (100 : UInt8), (101 : UInt8), (102 : UInt8), (103 : UInt8), (104 : UInt8), (105 : UInt8), (106 : UInt8), (107 : UInt8), (108 : UInt8), (109 : UInt8), (110 : UInt8), (111 : UInt8), (112 : UInt8), (113 : UInt8), (114 : UInt8), (115 : UInt8), (116 : UInt8), (117 : UInt8), (118 : UInt8), (119 : UInt8), (120 : UInt8), (121 : UInt8), (122 : UInt8)].getD (Go.IntKind.wrap .u64 ((Go.IntKind.wrap .u64 (Int.tdiv (Go.IntKind.wrap .u64 (Int.tdiv (Go.IntKind.wrap .u64 (Int.tdiv u1 (16 : Int))) (16 : Int))) (16 : Int))) - (Go.IntKind.wrap .u64 ((Go.IntKind.wrap .u64 (Int.tdiv (Go.IntKind.wrap .u64 (Int.tdiv (Go.IntKind.wrap .u64 (Int.tdiv (Go.IntKind.wrap .u64 (Int.tdiv u1 (16 : Int))) (16 : Int))) (16 : Int))) (16 : Int))) * (16 : Int))))).toNat (0 : UInt8)).toNat : Nat) : Int), ((([(48 : UInt8), (49 : UInt8), (50 : UInt8), (51 : UInt8), (52 : UInt8), (53 : UInt8), (54 : UInt8), (55 : UInt8), (56 : UInt8), (57 : UInt8), (97 : UInt8), (98 : UInt8), (99 : UInt8), (100 : UInt8), (101 : UInt8), (102 : UInt8), (103 : UInt8), (104 : UInt8), (105 : UInt8), (106 : UInt8), (107 : UInt8), (108 : UInt8), (109 : UInt8), (110 : UInt8), (111 : UInt8), (112 : UInt8), (113 : UInt8), (114 : UInt8), (115 : UInt8), (116 : UInt8), (117 : UInt8), (118 : UInt8), (119 : UInt8), (120 : UInt8), (121 : UInt8), (122 : UInt8)].getD (Go.IntKind.wrap .u64 ((Go.IntKind.wrap .u64 (Int.tdiv (Go.IntKind.wrap .u64 (Int.tdiv u1 (16 : Int))) (16 : Int))) - (Go.IntKind.wrap .u64 ((Go.IntKind.wrap .u64 (Int.tdiv (Go.IntKind.wrap .u64 (Int.tdiv (Go.IntKind.wrap .u64 (Int.tdiv u1 (16 : Int))) (16 : Int))) (16 : Int))) * (16 : Int))))).toNat (0 : UInt8)).toNat : Nat) : Int), ((([(48 : UInt8), (49 : UInt8), (50 : UInt8), (51 : UInt8), (52 : UInt8), (53 : UInt8), (54 : UInt8), (55 : UInt8), (56 : UInt8), (57 : UInt8), (97 : UInt8), (98 : UInt8), (99 : UInt8), (100 : UInt8), (101 : UInt8), (102 : UInt8), (103 : UInt8), (104 : UInt8), (105 : UInt8), (106 : UInt8), (107 : UInt8), (108 : UInt8), (109 : UInt8), (110 : UInt8), (111 : UInt8), (112 : UInt8), (113 : UInt8), (114 : UInt8), (115 : UInt8), (116 : UInt8), (117 : UInt8), (118 : UInt8), (119 : UInt8), (120 : UInt8), (121 : UInt8), (122 : UInt8)].getD (Go.IntKind.wrap .u64 ((Go.IntKind.wrap .u64 (Int.tdiv u1 (16 : Int))) - (Go.IntKind.wrap .u64 ((Go.IntKind.wrap .u64 (Int.tdiv (Go.IntKind.wrap .u64 (Int.tdiv u1 (16 : Int))) (16 : Int))) * (16 : Int))))).toNat (0 : UInt8)).toNat : Nat) : Int), ((([(48 : UInt8), (49 : UInt8), (50 : UInt8), (51 : UInt8), (52 : UInt8), (53 : UInt8), (54 : UInt8), (55 : UInt8), (56 : UInt8), (57 : UInt8), (97 : UInt8), (98 : UInt8), (99 : UInt8), (100 : UInt8), (101 : UInt8), (102 : UInt8), (103 : UInt8), (104 : UInt8), (105 : UInt8), (106 : UInt8), (107 : UInt8), (108 : UInt8), (109 : UInt8), (110 : UInt8), (111 : UInt8), (112 : UInt8), (113 : UInt8), (114 : UInt8), (115 : UInt8), (116 : UInt8), (117 : UInt8), (118 : UInt8), (119 : UInt8), (120 : UInt8), (121 : UInt8), (122 : UInt8)].getD (Go.IntKind.wrap .u64 (u1 - (Go.IntKind.wrap .u64 ((Go.IntKind.wrap .u64 (Int.tdiv u1 (16 : Int))) * (16 : Int))))).toNat (0 : UInt8)).toNat : Nat) : Int)]))), [])
             else
              none
           else
            none
          else
           if ((decide ((0 : Int) ≤ (Go.IntKind.wrap .u64 (Int.tdiv (Go.IntKind.wrap .u64 (Int.tdiv (Go.IntKind.wrap .u64 (Int.tdiv u1 (16 : Int))) (16 : Int))) (16 : Int))))) && (decide ((Go.IntKind.wrap .u64 (Int.tdiv (Go.IntKind.wrap .u64 (Int.tdiv (Go.IntKind.wrap .u64 (Int.tdiv u1 (16 : Int))) (16 : Int))) (16 : Int))) < (36 : Int)))) = true then
            some ((Go.Sx.textOf (List.drop 61 (List.take 65 [(0 : Int), (0 : Int), (0 : Int), (0 : Int), (0 : Int), (0 : Int), (0 : Int), (0 : Int), (0 : Int), (0 : Int), (0 : Int), (0 : Int), (0 : Int), (0 : Int), (0 : Int), (0 : Int), (0 : Int), (0 : Int), (0 : Int), (0 : Int), (0 : Int), (0 : Int), (0 : Int), (0 : Int), (0 : Int), (0 : Int), (0 : Int), (0 : Int), (0 : Int), (0 : Int), (0 : Int), (0 : Int), (0 : Int), (0 : Int), (0 : Int), (0 : Int), (0 : Int), (0 : Int), (0 : Int), (0 : Int), (0 : Int), (0 : Int), (0 : Int), (0 : Int), (0 : Int), (0 : Int), (0 : Int), (0 : Int), (0 : Int), (0 : Int), (0 : Int), (0 : Int), (0 : Int), (0 : Int), (0 : Int), (0 : Int), (0 : Int), (0 : Int), (0 : Int), (0 : Int), (0 : Int), ((([(48 : UInt8), (49 : UInt8), (50 : UInt8), (51 : UInt8), (52 : UInt8), (53 : UInt8), (54 : UInt8), (55 : UInt8), (56 : UInt8), (57 : UInt8), (97 : UInt8), (98 : UInt8), (99 : UInt8), (100 : UInt8), (101 : UInt8), (102 : UInt8), (103 : UInt8), (104 : UInt8), (105 : UInt8), (106 : UInt8), (107 : UInt8), (108 : UInt8), (109 : UInt8), (110 : UInt8), (111 : UInt8), (112 : UInt8), (113 : UInt8), (114 : UInt8), (115 : UInt8), (116 : UInt8), (117 : UInt8), (118 : UInt8), (119 : UInt8), (120 : UInt8), (121 : UInt8), (122 : UInt8)].getD (Go.IntKind.wrap .u64 (Int.tdiv (Go.IntKind.wrap .u64 (Int.tdiv (Go.IntKind.wrap .u64 (Int.tdiv u1 (16 : Int))) (16 : Int))) (16 : Int))).toNat (0 : UInt8)).toNat : Nat) : Int), ((([(48 : UInt8), (49 : UInt8), (50 : UInt8), (51 : UInt8), (52 : UInt8), (53 : UInt8), (54 : UInt8), (55 : UInt8), (56 : UInt8), (57 : UInt8), (97 : UInt8), (98 : UInt8), (99 : UInt8), (100 : UInt8), (101 : UInt8), (102 : UInt8), (103 : UInt8), (104 : UInt8), (105 : UInt8), (106 : UInt8), (107 : UInt8), (108 : UInt8), (109 : UInt8), (110 : UInt8), (111 : UInt8), (112 : UInt8), (113 : UInt8), (114 : UInt8), (115 : UInt8), (116 : UInt8), (117 : UInt8), (118 : UInt8), (119 : UInt8), (120 : UInt8), (121 : UInt8), (122 : UInt8)].getD (Go.IntKind.wrap .u64 ((Go.IntKind.wrap .u64 (Int.tdiv (Go.IntKind.wrap .u64 (Int.tdiv u1 (16 : Int))) (16 : Int))) - (Go.IntKind.wrap .u64 ((Go.IntKind.wrap .u64 (Int.tdiv (Go.IntKind.wrap .u64 (Int.tdiv (Go.IntKind.wrap .u64 (Int.tdiv u1 (16 : Int))) (16 : Int))) (16 : Int))) * (16 : Int))))).toNat (0 : UInt8)).toNat : Nat) : Int), ((([(48 : UInt8), (49 : UInt8), (50 : UInt8), (51 : UInt8), (52 : UInt8), (53 : UInt8), (54 : UInt8), (55 : UInt8), (56 : UInt8), (57 : UInt8), (97 : UInt8), (98 : UInt8), (99 : UInt8), (100 : UInt8), (101 : UInt8), (102 : UInt8), (103 : UInt8), (104 : UInt8), (105 : UInt8), (106 : UInt8), (107 : UInt8), (108 : UInt8), (109 : UInt8), (110 : UInt8), (111 : UInt8), (112 : UInt8), (113 : UInt8), (114 : UInt8), (115 : UInt8), (116 : UInt8), (117 : UInt8), (118 : UInt8), (119 : UInt8), (120 : UInt8), (121 : UInt8), (122 : UInt8)].getD (Go.IntKind.wrap .u64 ((Go.IntKind.wrap .u64 (Int.tdiv u1 (16 : Int))) - (Go.IntKind.wrap .u64 ((Go.IntKind.wrap .u64 (Int.tdiv (Go.IntKind.wrap .u64 (Int.tdiv u1 (16 : Int))) (16 : Int))) * (16 : Int))))).toNat (0 : UInt8)).toNat : Nat) : Int), ((([(48 : UInt8), (49 : UInt8), (50 : UInt8), (51 : UInt8), (52 : UInt8), (53 : UInt8), (54 : UInt8), (55 : UInt8), (56 : UInt8), (57 : UInt8), (97 : UInt8), (98 : UInt8), (99 : UInt8), (100 : UInt8), (101 : UInt8), (102 : UInt8), (103 : UInt8), (104 : UInt8), (105 : UInt8), (106 : UInt8), (107 : UInt8), (108 : UInt8), (109 : UInt8), (110 : UInt8), (111 : UInt8), (112 : UInt8), (113 : UInt8), (114 : UInt8), (115 : UInt8), (116 : UInt8), (117 : UInt8), (118 : UInt8), (119 : UInt8), (120 : UInt8), (121 : UInt8), (122 : UInt8)].getD (Go.IntKind.wrap .u64 (u1 - (Go.IntKind.wrap .u64 ((Go.IntKind.wrap .u64 (Int.tdiv u1 (16 : Int))) * (16 : Int))))).toNat (0 : UInt8)).toNat : Nat) : Int)]))), [])
           else
            none
         else
          none
        else
         if ((decide ((0 : Int) ≤ (Go.IntKind.wrap .u64 (Int.tdiv (Go.IntKind.wrap .u64 (Int.tdiv u1 (16 : Int))) (16 : Int))))) && (decide ((Go.IntKind.wrap .u64 (Int.tdiv (Go.IntKind.wrap .u64 (Int.tdiv u1 (16 : Int))) (16 : Int))) < (36 : Int)))) = true then
          some ((Go.Sx.textOf (List.drop 62 (List.take 65 [(0 : Int), (0 : Int), (0 : Int), (0 : Int), (0 : Int), (0 : Int), (0 : Int), (0 : Int), (0 : Int), (0 : Int), (0 : Int), (0 : Int), (0 : Int), (0 : Int), (0 : Int), (0 : Int), (0 : Int), (0 : Int), (0 : Int), (0 : Int), (0 : Int), (0 : Int), (0 : Int), (0 : Int), (0 : Int), (0 : Int), (0 : Int), (0 : Int), (0 : Int), (0 : Int), (0 : Int), (0 : Int), (0 : Int), (0 : Int), (0 : Int), (0 : Int), (0 : Int), (0 : Int), (0 : Int), (0 : Int), (0 : Int), (0 : Int), (0 : Int), (0 : Int), (0 : Int), (0 : Int), (0 : Int), (0 : Int), (0 : Int), (0 : Int), (0 : Int), (0 : Int), (0 : Int), (0 : Int), (0 : Int), (0 : Int), (0 : Int), (0 : Int), (0 : Int), (0 : Int), (0 : Int), (0 : Int), ((([(48 : UInt8), (49 : UInt8), (50 : UInt8), (51 : UInt8), (52 : UInt8), (53 : UInt8), (54 : UInt8), (55 : UInt8), (56 : UInt8), (57 : UInt8), (97 : UInt8), (98 : UInt8), (99 : UInt8), (100 : UInt8), (101 : UInt8), (102 : UInt8), (103 : UInt8), (104 : UInt8), (105 : UInt8), (106 : UInt8), (107 : UInt8), (108 : UInt8), (109 : UInt8), (110 : UInt8), (111 : UInt8), (112 : UInt8), (113 : UInt8), (114 : UInt8), (115 : UInt8), (116 : UInt8), (117 : UInt8), (118 : UInt8), (119 : UInt8), (120 : UInt8), (121 : UInt8), (122 : UInt8)].getD (Go.IntKind.wrap .u64 (Int.tdiv (Go.IntKind.wrap .u64 (Int.tdiv u1 (16 : Int))) (16 : Int))).toNat (0 : UInt8)).toNat : Nat) : Int), ((([(48 : UInt8), (49 : UInt8), (50 : UInt8), (51 : UInt8), (52 : UInt8), (53 : UInt8), (54 : UInt8), (55 : UInt8), (56 : UInt8), (57 : UInt8), (97 : UInt8), (98 : UInt8), (99 : UInt8), (100 : UInt8), (101 : UInt8), (102 : UInt8), (103 : UInt8), (104 : UInt8), (105 : UInt8), (106 : UInt8), (107 : UInt8), (108 : UInt8), (109 : UInt8), (110 : UInt8), (111 : UInt8), (112 : UInt8), (113 : UInt8), (114 : UInt8), (115 : UInt8), (116 : UInt8), (117 : UInt8), (118 : UInt8), (119 : UInt8), (120 : UInt8), (121 : UInt8), (122 : UInt8)].getD (Go.IntKind.wrap .u64 ((Go.IntKind.wrap .u64 (Int.tdiv u1 (16 : Int))) - (Go.IntKind.wrap .u64 ((Go.IntKind.wrap .u64 (Int.tdiv (Go.IntKind.wrap .u64 (Int.tdiv u1 (16 : Int))) (16 : Int))) * (16 : Int))))).toNat (0 : UInt8)).toNat : Nat) : Int), ((([(48 : UInt8), (49 : UInt8), (50 : UInt8), (51 : UInt8), (52 : UInt8), (53 : UInt8), (54 : UInt8), (55 : UInt8), (56 : UInt8), (57 : UInt8), (97 : UInt8), (98 : UInt8), (99 : UInt8), (100 : UInt8), (101 : UInt8), (102 : UInt8), (103 : UInt8), (104 : UInt8), (105 : UInt8), (106 : UInt8), (107 : UInt8), (108 : UInt8), (109 : UInt8), (110 : UInt8), (111 : UInt8), (112 : UInt8), (113 : UInt8), (114 : UInt8), (115 : UInt8), (116 : UInt8), (117 : UInt8), (118 : UInt8), (119 : UInt8), (120 : UInt8), (121 : UInt8), (122 : UInt8)].getD (Go.IntKind.wrap .u64 (u1 - (Go.IntKind.wrap .u64 ((Go.IntKind.wrap .u64 (Int.tdiv u1 (16 : Int))) * (16 : Int))))).toNat (0 : UInt8)).toNat : Nat) : Int)]))), [])
         else
          none
       else
        none
      else
       if ((decide ((0 : Int) ≤ (Go.IntKind.wrap .u64 (Int.tdiv u1 (16 : Int))))) && (decide ((Go.IntKind.wrap .u64 (Int.tdiv u1 (16 : Int))) < (36 : Int)))) = true then
        some ((Go.Sx.textOf (List.drop 63 (List.take 65 [(0 : Int), (0 : Int), (0 : Int), (0 : Int), (0 : Int), (0 : Int), (0 : Int), (0 : Int), (0 : Int), (0 : Int), (0 : Int), (0 : Int), (0 : Int), (0 : Int), (0 : Int), (0 : Int), (0 : Int), (0 : Int), (0 : Int), (0 : Int), (0 : Int), (0 : Int), (0 : Int), (0 : Int), (0 : Int), (0 : Int), (0 : Int), (0 : Int), (0 : Int), (0 : Int), (0 : Int), (0 : Int), (0 : Int), (0 : Int), (0 : Int), (0 : Int), (0 : Int), (0 : Int), (0 : Int), (0 : Int), (0 : Int), (0 : Int), (0 : Int), (0 : Int), (0 : Int), (0 : Int), (0 : Int), (0 : Int), (0 : Int), (0 : Int), (0 : Int), (0 : Int), (0 : Int), (0 : Int), (0 : Int), (0 : Int), (0 : Int), (0 : Int), (0 : Int), (0 : Int), (0 : Int), (0 : Int), (0 : Int), ((([(48 : UInt8), (49 : UInt8), (50 : UInt8), (51 : UInt8), (52 : UInt8), (53 : UInt8), (54 : UInt8), (55 : UInt8), (56 : UInt8), (57 : UInt8), (97 : UInt8), (98 : UInt8), (99 : UInt8), (100 : UInt8), (101 : UInt8), (102 : UInt8), (103 : UInt8), (104 : UInt8), (105 : UInt8), (106 : UInt8), (107 : UInt8), (108 : UInt8), (109 : UInt8), (110 : UInt8), (111 : UInt8), (112 : UInt8), (113 : UInt8), (114 : UInt8), (115 : UInt8), (116 : UInt8), (117 : UInt8), (118 : UInt8), (119 : UInt8), (120 : UInt8), (121 : UInt8), (122 : UInt8)].getD (Go.IntKind.wrap .u64 (Int.tdiv u1 (16 : Int))).toNat (0 : UInt8)).toNat : Nat) : Int), ((([(48 : UInt8), (49 : UInt8), (50 : UInt8), (51 : UInt8), (52 : UInt8), (53 : UInt8), (54 : UInt8), (55 : UInt8), (56 : UInt8), (57 : UInt8), (97 : UInt8), (98 : UInt8), (99 : UInt8), (100 : UInt8), (101 : UInt8), (102 : UInt8), (103 : UInt8), (104 : UInt8), (105 : UInt8), (106 : UInt8), (107 : UInt8), (108 : UInt8), (109 : UInt8), (110 : UInt8), (111 : UInt8), (112 : UInt8), (113 : UInt8), (114 : UInt8), (115 : UInt8), (116 : UInt8), (117 : UInt8), (118 : UInt8), (119 : UInt8), (120 : UInt8), (121 : UInt8), (122 : UInt8)].getD (Go.IntKind.wrap .u64 (u1 - (Go.IntKind.wrap .u64 ((Go.IntKind.wrap .u64 (Int.tdiv u1 (16 : Int))) * (16 : Int))))).toNat (0 : UInt8)).toNat : Nat) : Int)]))), [])
       else
        none
     else
      none
    else
     if ((decide ((0 : Int) ≤ u1)) && (decide (u1 < (36 : Int)))) = true then
      some ((Go.Sx.textOf (List.drop 64 (List.take 65 [(0 : Int), (0 : Int), (0 : Int), (0 : Int), (0 : Int), (0 : Int), (0 : Int), (0 : Int), (0 : Int), (0 : Int), (0 : Int), (0 : Int), (0 : Int), (0 : Int), (0 : Int), (0 : Int), (0 : Int), (0 : Int), (0 : Int), (0 : Int), (0 : Int), (0 : Int), (0 : Int), (0 : Int), (0 : Int), (0 : Int), (0 : Int), (0 : Int), (0 : Int), (0 : Int), (0 : Int), (0 : Int), (0 : Int), (0 : Int), (0 : Int), (0 : Int), (0 : Int), (0 : Int), (0 : Int), (0 : Int), (0 : Int), (0 : Int), (0 : Int), (0 : Int), (0 : Int), (0 : Int), (0 : Int), (0 : Int), (0 : Int), (0 : Int), (0 : Int), (0 : Int), (0 : Int), (0 : Int), (0 : Int), (0 : Int), (0 : Int), (0 : Int), (0 : Int), (0 : Int), (0 : Int), (0 : Int), (0 : Int), (0 : Int), ((([(48 : UInt8), (49 : UInt8), (50 : UInt8), (51 : UInt8), (52 : UInt8), (53 : UInt8), (54 : UInt8), (55 : UInt8), (56 : UInt8), (57 : UInt8), (97 : UInt8), (98 : UInt8), (99 : UInt8), (100 : UInt8), (101 : UInt8), (102 : UInt8), (103 : UInt8), (104 : UInt8), (105 : UInt8), (106 : UInt8), (107 : UInt8), (108 : UInt8), (109 : UInt8), (110 : UInt8), (111 : UInt8), (112 : UInt8), (113 : UInt8), (114 : UInt8), (115 : UInt8), (116 : UInt8), (117 : UInt8), (118 : UInt8), (119 : UInt8), (120 : UInt8), (121 : UInt8), (122 : UInt8)].getD u1.toNat (0 : UInt8)).toNat : Nat) : Int)]))), [])
     else
      none
noncomputable def internal_strconv_FormatUint (i0 : Int) : Option (ByteArray) :=
  ((Go.Tx.internal_strconv_formatBits i0)).bind fun (r0_0, r0_1) =>
   some r0_0
noncomputable def strconv_FormatUint (i0 : Int) : Option (ByteArray) :=
  ((Go.Tx.internal_strconv_FormatUint i0)).bind fun r0_0 =>
   some r0_0
noncomputable def chart_Points_b3 : Int × Int × List (ByteArray) × List (Int) → Option ((Int × Int × List (ByteArray) × List (Int)) ⊕ ((List (ByteArray) × List (Int)))) := fun
  | (t11, t12, l109, l0) =>
  if (decide (t12 < t11)) = true then
   if ((decide ((0 : Int) ≤ t12)) && (decide (t12 < ((l0.length : Nat) : Int)))) = true then
    if (decide (t12.toNat < l0.length)) = true then
     if (decide ((l0.getD t12.toNat (0 : Int)) > (1114111 : Int))) = true then
      if (decide (((l109.length + 1) * 16) ≤ 140737488355328)) = true then
       some (.inl (t11, ((Go.IntKind.wrap .i64 (t12 + (1 : Int))), ((l109 ++ [(ByteArray.mk (List.toArray [(63 : UInt8)]))]), l0))))
      else
       none
     else
      ((Go.Tx.strconv_FormatUint (Go.IntKind.wrap .u64 (l0.getD t12.toNat (0 : Int))))).bind fun r0_0 =>
       ((Go.Tx.strings_ToUpper r0_0)).bind fun r1_0 =>
        ((Go.Tx.strings_Repeat (ByteArray.mk (List.toArray [(48 : UInt8)])) (if ((0 : Int) > (Go.IntKind.wrap .i64 ((4 : Int) - ((r1_0.size : Nat) : Int)))) then (0 : Int) else (Go.IntKind.wrap .i64 ((4 : Int) - ((r1_0.size : Nat) : Int)))))).bind fun r2_0 =>
         if (decide ((r2_0.size + r1_0.size) ≤ 9223372036854775807)) = true then
          if (decide (((l109.length + [(ByteArray.append r2_0 r1_0)].length) * 16) ≤ 140737488355328)) = true then
           some (.inl (t11, ((Go.IntKind.wrap .i64 (t12 + (1 : Int))), ((l109 ++ [(ByteArray.append r2_0 r1_0)]), l0))))
          else
           none
         else
          none
    else
     none
   else
    none
  else
   some (.inr (l109, l0))
noncomputable def chart_Points (l0 : List (Int)) : Option ((ByteArray × List (Int))) :=
  if ((decide ((0 : Int) ≤ ((l0.length : Nat) : Int))) && (decide (((16 : Int) * ((l0.length : Nat) : Int)) ≤ (140737488355328 : Int)))) = true then
   ((Go.Sx.runLoop chart_Points_b3 (((l0.length : Nat) : Int), ((0 : Int), ((List.replicate 0 ByteArray.empty), l0))))).bind fun (r0_0, r0_1) =>
    ((Go.Tx.strings_Join (ByteArray.mk (List.toArray [(32 : UInt8)])) r0_0)).bind fun r1_0 =>
     some (r1_0, r0_1)
  else
   none
noncomputable def law07_awake  : Option (Bool) :=
  ((Go.Tx.chart_Classes (ByteArray.mk (List.toArray [(48 : UInt8), (51 : UInt8), (48 : UInt8), (48 : UInt8), (32 : UInt8), (48 : UInt8), (51 : UInt8), (49 : UInt8), (52 : UInt8), (32 : UInt8), (50 : UInt8), (51 : UInt8), (48 : UInt8)])))).bind fun (r0_0, r0_1, r0_2) =>
   if (decide (r0_0 = (0 : Int))) = true then
    if (decide (r0_1 = (0 : Int))) = true then
     if (decide (((r0_2.length : Nat) : Int) = (1 : Int))) = true then
      if (decide ((0 : Int) < ((r0_2.length : Nat) : Int))) = true then
       if (decide (0 < r0_2.length)) = true then
        if (decide ((r0_2.getD 0 ((0 : Int), ((0 : Int), (0 : Int)))).2.2 = (230 : Int))) = true then
         if (decide ((0 : Int) < ((r0_2.length : Nat) : Int))) = true then
          if (decide (0 < r0_2.length)) = true then
           if (decide ((r0_2.getD 0 ((0 : Int), ((0 : Int), (0 : Int)))).2.1 = (788 : Int))) = true then
            ((Go.Tx.chart_Points [(65 : Int), (1114111 : Int)])).bind fun (r1_0, r1_1) =>
             some (List.beq (ByteArray.toList r1_0) (ByteArray.toList (ByteArray.mk (List.toArray [(48 : UInt8), (48 : UInt8), (52 : UInt8), (49 : UInt8), (32 : UInt8), (49 : UInt8), (48 : UInt8), (70 : UInt8), (70 : UInt8), (70 : UInt8), (70 : UInt8)]))))
           else
            some false
          else
           none
         else
          none
        else
         some false
       else
        none
      else
       none
     else
      some false
    else
     some false
   else
    some false
end Go.Tx
