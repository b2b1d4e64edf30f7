/- Part 9 of the proof of the statement that the last part names; it asks for no condition of its own. Here: GenMr0, GenMr0B, PcMr0. -/
import Derived.Test.YtgkfbembnlgahaaGreatDoorQae
import Derived.Test.YtgkfbembnlgahaaGreatDoorQag
import Derived.Shelf.SlSortCmp.NoneTotal
/- Printed by the driver (wip/drv): Go functions as pure Lean ones: what a comparison comes to. -/
set_option linter.all false
set_option maxRecDepth 100000
namespace Go.Ts
open Go Go.Sx
/-! cmp.isNaN[uint32] -/
noncomputable def cmp_isNaN_uint32 (x0 : Int) : Option (Bool) :=
  some (x0 != x0)
/-! cmp.Compare[uint32] -/
noncomputable def cmp_Compare_uint32 (x0 : Int) (y1 : Int) : Option (Int) :=
  ((Go.Ts.cmp_isNaN_uint32 x0)).bind fun r0_0 =>
   ((Go.Ts.cmp_isNaN_uint32 y1)).bind fun r1_0 =>
    if r0_0 = true then
     if r1_0 = true then
      some (0 : Int)
     else
      some (-1 : Int)
    else
     if r1_0 = true then
      some (1 : Int)
     else
      if (decide (x0 < y1)) = true then
       some (-1 : Int)
      else
       if (decide (x0 > y1)) = true then
        some (1 : Int)
       else
        some (0 : Int)
/-! cmp.Or[int] -/
noncomputable def cmp_Or_int_b3 : Int × Int × List (Int) → Option ((Int × Int × List (Int)) ⊕ ((Int × List (Int)) ⊕ List (Int))) := fun
  | (t7, t8, l0) =>
  if (decide (t8 < t7)) = true then
   if ((decide ((0 : Int) ≤ t8)) && (decide (t8 < ((l0.length : Nat) : Int)))) = true then
    if (decide (t8.toNat < l0.length)) = true then
     if ((l0.getD t8.toNat (0 : Int)) != (0 : Int)) = true then
      some (.inr (.inl ((l0.getD t8.toNat (0 : Int)), l0)))
     else
      some (.inl (t7, ((Go.IntKind.wrap .i64 (t8 + (1 : Int))), l0)))
    else
     none
   else
    none
  else
   some (.inr (.inr l0))
noncomputable def cmp_Or_int (l0 : List (Int)) : Option ((Int × List (Int))) :=
  ((Go.Sx.runLoop cmp_Or_int_b3 (((l0.length : Nat) : Int), ((0 : Int), l0)))).bind fun r0_0 =>
   match r0_0 with
   | .inl (r1_0, r1_1) =>
    some (r1_0, r1_1)
   | .inr r2_0 =>
    some ((0 : Int), r2_0)
/-! sabretache/tables.Merge$2 -/
noncomputable def tables_Merge_2 (a0_0 : Int) (a0_1 : Int) (b1_0 : Int) (b1_1 : Int) : Option (Int) :=
  ((Go.Ts.cmp_Compare_uint32 a0_0 b1_0)).bind fun r0_0 =>
   ((Go.Ts.cmp_Compare_uint32 a0_1 b1_1)).bind fun r1_0 =>
    ((Go.Ts.cmp_Or_int [r0_0, r1_0])).bind fun (r2_0, r2_1) =>
     some r2_0
/-! sabretache/tables.Merge$1 -/
noncomputable def tables_Merge_1 (s0_0 : Int) (s0_1 : Int) : Option (Bool) :=
  some (decide (s0_0 > s0_1))
end Go.Ts

/- Printed by the driver (wip/drv): contracts that lean on no variable. -/
set_option linter.all false
set_option linter.unusedVariables false
set_option maxRecDepth 100000
set_option maxHeartbeats 0
namespace Go.Ts
open Go Go.Sx Go.Tx
/-! cmp.isNaN[uint32] -/
noncomputable def cmp_isNaN_uint32_i : Pat := ⟨[.b (.int .u32)], 6, [(0, .v)], []⟩
noncomputable def cmp_isNaN_uint32_o : Exits := [(.ret, ⟨[.b .bool], 6, [(2, .v)], []⟩)]
noncomputable def cmp_isNaN_uint32_s : TSum := TSum.of (baseC (fun _ => none) (fun _ => [])) (Go.Proofs.Tryz.f173.results.toList) 0 cmp_isNaN_uint32_i cmp_isNaN_uint32_o (fun v => cmp_isNaN_uint32 v)
noncomputable def cmp_isNaN_uint32_z : Code := Option.getD Go.Proofs.Tryz.f173.body .skip
noncomputable def cmp_isNaN_uint32_x (gl : Glob) : TCtx := { baseC gl (lookS []) with inl := lookI [], fuel := 0, loops := lookL [], cuts := lookL [] }
theorem cmp_isNaN_uint32_v {gl : Glob} : ValidS Go.Proofs.Tryz.prog gl 173 cmp_isNaN_uint32_s := by
  refine validS_of (c := cmp_isNaN_uint32_x gl) ?_ hm_ Go.Proofs.Tryz.func173 (body := cmp_isNaN_uint32_z) ?_ ?_ ?_ ?_ ?_ ?_ ?_ ?_ ?_
  · exact tok_of tyB_ok cmpB_ok .nil .nil
  · kernel_rfl
  · rfl
  · exact annOK_by (l := []) (by kernel_rfl) (trivial)
  · exact fun v => Eq.symm (by kernel_rfl)
  · kernel_rfl
  · kernel_rfl
  · exact exitX_of (.cons (fun v => by kernel_rfl) .nil)
  · rfl
  · rfl
/-! cmp.Compare[uint32] -/
noncomputable def cmp_Compare_uint32_i : Pat := ⟨[.b (.int .u32), .b (.int .u32)], 20, [(0, .v), (1, .v)], []⟩
noncomputable def cmp_Compare_uint32_o : Exits := [(.ret, ⟨[.b (.int .i64)], 20, [(4, .v)], []⟩)]
noncomputable def cmp_Compare_uint32_s : TSum := TSum.of (baseC (fun _ => none) (fun _ => [])) (Go.Proofs.Tryz.f128.results.toList) 0 cmp_Compare_uint32_i cmp_Compare_uint32_o (fun v => cmp_Compare_uint32 v.1 v.2)
noncomputable def cmp_Compare_uint32_z : Code := Option.getD Go.Proofs.Tryz.f128.body .skip
noncomputable def cmp_Compare_uint32_x (gl : Glob) : TCtx := { baseC gl (lookS [(173, [cmp_isNaN_uint32_s])]) with inl := lookI [], fuel := 0, loops := lookL [], cuts := lookL [] }
theorem cmp_Compare_uint32_v {gl : Glob} : ValidS Go.Proofs.Tryz.prog gl 128 cmp_Compare_uint32_s := by
  refine validS_of (c := cmp_Compare_uint32_x gl) ?_ hm_ Go.Proofs.Tryz.func128 (body := cmp_Compare_uint32_z) ?_ ?_ ?_ ?_ ?_ ?_ ?_ ?_ ?_
  · exact tok_of tyB_ok cmpB_ok (.cons (.cons cmp_isNaN_uint32_v .nil) (hb_ 173 Go.Proofs.Tryz.func173 (by kernel_rfl) (by kernel_rfl)) .nil) .nil
  · kernel_rfl
  · rfl
  · exact annOK_by (l := []) (by kernel_rfl) (trivial)
  · exact fun (a0, a1) => Eq.symm (by kernel_rfl)
  · kernel_rfl
  · kernel_rfl
  · exact exitX_of (.cons (fun v => by kernel_rfl) .nil)
  · rfl
  · rfl
/-! cmp.Or[int] -/
noncomputable def cmp_Or_int_l3 : Loop1 := ⟨⟨[.b (.int .i64), .b (.int .i64), .r [.b (.int .i64)]], 18, [(3, (.lit (.int .i64 0))), (6, (.own 0)), (7, .v), (8, .v)], [⟨0, 0, .row true 3 [.b (.int .i64)]⟩]⟩, [(.ret, ⟨[.b (.int .i64), .r [.b (.int .i64)]], 18, [(2, .v)], [⟨0, 0, .row true 3 [.b (.int .i64)]⟩]⟩), (.exit 0, ⟨[.r [.b (.int .i64)]], 18, [(3, (.lit (.int .i64 0)))], [⟨0, 0, .row true 3 [.b (.int .i64)]⟩]⟩)], cmp_Or_int_b3⟩
noncomputable def cmp_Or_int_i : Pat := ⟨[.r [.b (.int .i64)]], 18, [(0, (.own 0))], [⟨0, 0, .row true 3 [.b (.int .i64)]⟩]⟩
noncomputable def cmp_Or_int_o : Exits := [(.ret, ⟨[.b (.int .i64), .r [.b (.int .i64)]], 18, [(2, .v)], [⟨0, 0, .row true 3 [.b (.int .i64)]⟩]⟩)]
noncomputable def cmp_Or_int_s : TSum := TSum.of (baseC (fun _ => none) (fun _ => [])) (Go.Proofs.Tryz.f127.results.toList) 1 cmp_Or_int_i cmp_Or_int_o (fun v => cmp_Or_int v)
noncomputable def cmp_Or_int_z : Code := Option.getD Go.Proofs.Tryz.f127.body .skip
noncomputable def cmp_Or_int_x (gl : Glob) : TCtx := { baseC gl (lookS []) with inl := lookI [], fuel := 0, loops := lookL [(3, cmp_Or_int_l3)], cuts := lookL [] }
theorem cmp_Or_int_v {gl : Glob} : ValidS Go.Proofs.Tryz.prog gl 127 cmp_Or_int_s := by
  refine validS_of (c := cmp_Or_int_x gl) ?_ hm_ Go.Proofs.Tryz.func127 (body := cmp_Or_int_z) ?_ ?_ ?_ ?_ ?_ ?_ ?_ ?_ ?_
  · exact tok_of tyB_ok cmpB_ok .nil .nil
  · kernel_rfl
  · rfl
  · exact annOK_by (l := [∀ v, cmp_Or_int_l3.body v = (roundT (cmp_Or_int_x gl) cmp_Or_int_l3.pat cmp_Or_int_l3.exits (subAt [1, 1, 0, 1, 0, 0] cmp_Or_int_z) v).run]) (by kernel_rfl) (⟨fun (a0, a1, a2) => Eq.symm (by kernel_rfl), trivial⟩)
  · exact fun v => Eq.symm (by kernel_rfl)
  · kernel_rfl
  · kernel_rfl
  · exact exitX_of (.cons (fun v => by kernel_rfl) .nil)
  · rfl
  · rfl
/-! sabretache/tables.Merge$2 -/
noncomputable def tables_Merge_2_i : Pat := ⟨[.b (.int .u32), .b (.int .u32), .b (.int .u32), .b (.int .u32)], 17, [(0, (.agg [.v, .v])), (1, (.agg [.v, .v]))], []⟩
noncomputable def tables_Merge_2_o : Exits := [(.ret, ⟨[.b (.int .i64)], 17, [(4, .v)], []⟩)]
noncomputable def tables_Merge_2_s : TSum := TSum.of (baseC (fun _ => none) (fun _ => [])) (Go.Proofs.Tryz.f126.results.toList) 0 tables_Merge_2_i tables_Merge_2_o (fun v => tables_Merge_2 v.1 v.2.1 v.2.2.1 v.2.2.2)
noncomputable def tables_Merge_2_z : Code := Option.getD Go.Proofs.Tryz.f126.body .skip
noncomputable def tables_Merge_2_x (gl : Glob) : TCtx := { baseC gl (lookS [(128, [cmp_Compare_uint32_s]), (127, [cmp_Or_int_s])]) with inl := lookI [], fuel := 0, loops := lookL [], cuts := lookL [] }
theorem tables_Merge_2_v {gl : Glob} : ValidS Go.Proofs.Tryz.prog gl 126 tables_Merge_2_s := by
  refine validS_of (c := tables_Merge_2_x gl) ?_ hm_ Go.Proofs.Tryz.func126 (body := tables_Merge_2_z) ?_ ?_ ?_ ?_ ?_ ?_ ?_ ?_ ?_
  · exact tok_of tyB_ok cmpB_ok (.cons (.cons cmp_Compare_uint32_v .nil) (hb_ 128 Go.Proofs.Tryz.func128 (by kernel_rfl) (by kernel_rfl)) (.cons (.cons cmp_Or_int_v .nil) (hb_ 127 Go.Proofs.Tryz.func127 (by kernel_rfl) (by kernel_rfl)) .nil)) .nil
  · kernel_rfl
  · rfl
  · exact annOK_by (l := []) (by kernel_rfl) (trivial)
  · exact fun (a0, a1, a2, a3) => Eq.symm (by kernel_rfl)
  · kernel_rfl
  · kernel_rfl
  · exact exitX_of (.cons (fun v => by kernel_rfl) .nil)
  · rfl
  · rfl
/-! sabretache/tables.Merge$1 -/
noncomputable def tables_Merge_1_i : Pat := ⟨[.b (.int .u32), .b (.int .u32)], 8, [(0, (.agg [.v, .v]))], []⟩
noncomputable def tables_Merge_1_o : Exits := [(.ret, ⟨[.b .bool], 8, [(2, .v)], []⟩)]
noncomputable def tables_Merge_1_s : TSum := TSum.of (baseC (fun _ => none) (fun _ => [])) (Go.Proofs.Tryz.f124.results.toList) 0 tables_Merge_1_i tables_Merge_1_o (fun v => tables_Merge_1 v.1 v.2)
noncomputable def tables_Merge_1_z : Code := Option.getD Go.Proofs.Tryz.f124.body .skip
noncomputable def tables_Merge_1_x (gl : Glob) : TCtx := { baseC gl (lookS []) with inl := lookI [], fuel := 0, loops := lookL [], cuts := lookL [] }
theorem tables_Merge_1_v {gl : Glob} : ValidS Go.Proofs.Tryz.prog gl 124 tables_Merge_1_s := by
  refine validS_of (c := tables_Merge_1_x gl) ?_ hm_ Go.Proofs.Tryz.func124 (body := tables_Merge_1_z) ?_ ?_ ?_ ?_ ?_ ?_ ?_ ?_ ?_
  · exact tok_of tyB_ok cmpB_ok .nil .nil
  · kernel_rfl
  · rfl
  · exact annOK_by (l := []) (by kernel_rfl) (trivial)
  · exact fun (a0, a1) => Eq.symm (by kernel_rfl)
  · kernel_rfl
  · kernel_rfl
  · exact exitX_of (.cons (fun v => by kernel_rfl) .nil)
  · rfl
  · rfl
end Go.Ts

/- The comparison of spans: pure. -/
set_option linter.unusedVariables false
namespace Go.Pc
open Go Go.Sx Go.Ts Go.Sort Go.Proofs
def cfS (x y : Int × Int) : Int := if x.1 < y.1 then -1 else if x.1 > y.1 then 1 else if x.2 < y.2 then -1 else if x.2 > y.2 then 1 else 0
def cpI (a b : Int) : Int := if a < b then -1 else if a > b then 1 else 0
theorem cmp_is (a b : Int) : cmp_Compare_uint32 a b = some (cpI a b) := by
  unfold cmp_Compare_uint32 cmp_isNaN_uint32 cpI
  simp only [Option.bind_some, bne_self_eq_false, Bool.false_eq_true, if_false, decide_eq_true_eq]
  split
  · rfl
  · split <;> rfl
theorem or_is (a b : Int) : cmp_Or_int [a, b] = some (if a ≠ 0 then a else b, [a, b]) := by
  unfold cmp_Or_int
  have w0 : IntKind.i64.wrap (1 : Int) = 1 := by decide
  have w1 : IntKind.i64.wrap (2 : Int) = 2 := by decide
  by_cases ha : a = 0
  · subst ha
    have e0 : cmp_Or_int_b3 ((([(0 : Int), b].length : Nat) : Int), (0 : Int), [0, b]) = some (.inl ((([(0 : Int), b].length : Nat) : Int), (1 : Int), [0, b])) := by
      simp [cmp_Or_int_b3, w0]
    rw [runLoop_step e0]
    by_cases hb : b = 0
    · subst hb
      have e1 : cmp_Or_int_b3 ((([(0 : Int), 0].length : Nat) : Int), (1 : Int), [0, 0]) = some (.inl ((([(0 : Int), 0].length : Nat) : Int), (2 : Int), [0, 0])) := by
        simp [cmp_Or_int_b3, w1]
      rw [runLoop_step e1]
      have e2 : cmp_Or_int_b3 ((([(0 : Int), 0].length : Nat) : Int), (2 : Int), [0, 0]) = some (.inr (.inr [0, 0])) := by
        simp [cmp_Or_int_b3]
      rw [runLoop_done e2]
      rfl
    · have e1 : cmp_Or_int_b3 ((([(0 : Int), b].length : Nat) : Int), (1 : Int), [0, b]) = some (.inr (.inl (b, [0, b]))) := by
        simp [cmp_Or_int_b3, hb]
      rw [runLoop_done e1]
      simp
  · have e0 : cmp_Or_int_b3 ((([a, b].length : Nat) : Int), (0 : Int), [a, b]) = some (.inr (.inl (a, [a, b]))) := by
      simp [cmp_Or_int_b3, ha]
    rw [runLoop_done e0]
    simp [ha]
theorem merge2_is (x y : Int × Int) : tables_Merge_2 x.1 x.2 y.1 y.2 = some (cfS x y) := by
  unfold tables_Merge_2
  rw [cmp_is, cmp_is]
  simp only [Option.bind_some]
  rw [or_is]
  simp only [Option.bind_some]
  unfold cfS cpI
  by_cases h1 : x.1 < y.1
  · simp [h1]
  · by_cases h2 : x.1 > y.1
    · simp [h1, h2]
    · simp [h1, h2]
theorem ltS (x y : Int × Int) : ltOf cfS x y = decide (x.1 < y.1 ∨ (x.1 = y.1 ∧ x.2 < y.2)) := by
  unfold ltOf cfS
  apply decide_eq_decide.2
  split
  · omega
  · split
    · omega
    · split
      · omega
      · split <;> omega
theorem swoS : SWO (ltOf cfS) where
  irrefl x := by rw [ltS]; simp
  trans x y z h1 h2 := by rw [ltS] at *; simp only [decide_eq_true_eq] at *; omega
  ntrans x y z h1 h2 := by rw [ltS] at *; simp only [decide_eq_false_iff_not] at *; omega
theorem totS (x y : Int × Int) (h1 : ltOf cfS x y = false) (h2 : ltOf cfS y x = false) : x = y := by
  rw [ltS] at *
  simp only [decide_eq_false_iff_not] at *
  exact Prod.ext (by omega) (by omega)
/-- Spans in order. -/
def sortS (l : List (Int × Int)) : List (Int × Int) := l.mergeSort fun x y => !(ltOf cfS y x)
theorem sortS_perm (l : List (Int × Int)) : (sortS l).Perm l := List.mergeSort_perm l _
theorem sortS_ord (l : List (Int × Int)) : (sortS l).Pairwise fun a b => a.1 ≤ b.1 := by
  have h := List.pairwise_mergeSort (le := fun x y => !(ltOf cfS y x)) (fun a b c h1 h2 => by
    simp only [ltS, Bool.not_eq_true', decide_eq_false_iff_not] at *; omega) (fun a b => by
    simp only [ltS, Bool.or_eq_true, Bool.not_eq_true', decide_eq_false_iff_not]; omega) l
  refine h.imp fun {a b} hab => ?_
  simp only [ltS, Bool.not_eq_true', decide_eq_false_iff_not] at hab
  omega
end Go.Pc
