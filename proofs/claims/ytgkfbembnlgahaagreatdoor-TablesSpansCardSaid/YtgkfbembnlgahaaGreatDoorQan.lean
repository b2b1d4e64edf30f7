/- Part 14 of the proof of the statement that the last part names; it asks for no condition of its own. Here: TxDel. -/
import Derived.Test.YtgkfbembnlgahaaGreatDoorQam
import Derived.Shelf.SlicesE.DeleteFunc
import Derived.Shelf.SlicesQ.IndexFunc
set_option linter.unusedVariables false
set_option maxRecDepth 1000000
set_option maxHeartbeats 4000000
namespace Go.Tx
open Go Go.Sx Go.Proofs Go.Sort Go.RowKit Go.Pc Go.Lib
def badS (x : Int × Int) : Bool := decide (x.1 > x.2)
theorem bad_calls (W : World) (x : Int × Int) : Calls Tryz.prog 124 #[.agg (encSp x).toArray] W fun e w' => e = .returned (.bool (badS x)) ∧ ∃ q os', w' = grow (W.drewN q) os' :=
  calls_strict (S := Go.Ts.tables_Merge_1_s) (args := [.agg [.v (.int .u32 x.1), .v (.int .u32 x.2)]]) (v := (x.1, x.2)) (o := badS x) (val := .bool (badS x)) Go.Ts.tables_Merge_1_v (by kernel_rfl) rfl (by kernel_rfl) (fun ρ => ⟨⟨_, rfl, rfl, rfl, trivial⟩, trivial⟩)
theorem bad_enters : ∀ args w, (callFunc 124 args).run Tryz.prog w = .ok (.enter 124 args) w := enters_of Tryz.func124 (by kernel_rfl) rfl
theorem grow_below {W : World} {B q : Nat} {os : Array Obj} {w : World} (h : Below B w W) (hB : B ≤ W.heap.size) : Below B w (grow (W.drewN q) os) :=
  ⟨h.os, h.tape, h.output, Nat.le_trans h.size (by simp [grow, World.drewN]), fun k hk => by rw [heap_grow_old _ _ (by show k < W.heap.size; omega)]; exact h.block k hk⟩
theorem bad_below (w : World) : PredBelow Tryz.prog 124 #[] (fun x => .agg (encSp x).toArray) badS w := by
  intro W x hb
  refine (bad_calls W x).mono ?_
  rintro e w' ⟨he, q, os', rfl⟩
  exact ⟨he, grow_below hb hb.size⟩
theorem index_calls (g cap : Nat) (d : Array (Int × Int)) (w : World) (hH : HoldsK encSp 2 w g 0 d) (hblk : g < w.heap.size) (hsz : d.size ≤ 9223372036854775807) :
    Calls Tryz.prog 170 #[.slice (some ⟨g, 0, none⟩) d.size cap, .func (.func 124) #[] #[]] w fun e w' => e = .returned (.int .i64 (Lib.idxBy (fun _ y => badS y) d.toList default)) ∧ Below w.heap.size w w' := by
  have tl : ∀ j, j < d.size → d.toList[j]! = d[j]! := fun j hj => by rw [getElem!_pos d j hj, getElem!_pos d.toList j (by simpa using hj)]; simp
  have h := AnyQ.slices_IndexFunc Tryz.indexSpan 2 Tryz.isAgg83 Tryz.sizeOf83 encSp (fun _ => rfl) badS 124 #[] bad_enters g 0 d.size cap d.toList w (bad_below w) (by simp) hsz hblk (fun j hj i v hv => by
    have hj' : j < d.size := by simpa using hj
    rw [tl j hj'] at hv
    have := HoldsK.cells hH (fun _ => rfl) hj' i v hv
    rwa [Addr.add_lit] at this)
  rw [List.take_of_length_le (by simp)] at h
  exact h
theorem setMany_append (F : Array Value) : ∀ (a : List Value) (s : Nat) (F : Array Value) (b : List Value), setMany F s (a ++ b) = setMany (setMany F s a) (s + a.length) b
  | [], s, F, b => rfl
  | x :: a, s, F, b => by
    show setMany (F.setIfInBounds s x) (s + 1) (a ++ b) = setMany (setMany (F.setIfInBounds s x) (s + 1) a) (s + (a.length + 1)) b
    rw [setMany_append F a (s + 1) _ b]
    congr 1
    omega
theorem flat_set (d : Array (Int × Int)) (i : Nat) (x : Int × Int) (hi : i < d.size) : setMany (flatK encSp 2 d) (i * 2) (encSp x) = flatK encSp 2 (d.setIfInBounds i x) := by
  refine ext_get! (by simp) fun t ht => ?_
  have ht' : t < d.size * 2 := by simpa using ht
  rw [get_setMany _ _ _ t (by simpa using ht'), get_flatK _ _ _ t ht', get_flatK _ _ _ t (by simpa using ht')]
  have hl : (encSp x).length = 2 := rfl
  rw [hl]
  by_cases a : t / 2 = i
  · rw [if_pos (by omega), a, getElem!_set_same d i x hi]
    congr 1
    omega
  · rw [if_neg (by omega), getElem!_set_other d i (t / 2) x a]
theorem flat_lay : ∀ (l : List (Int × Int)) (d : Array (Int × Int)) (i : Nat), i + l.length ≤ d.size → setMany (flatK encSp 2 d) (i * 2) (l.map encSp).flatten = flatK encSp 2 (lay d i l)
  | [], d, i, h => rfl
  | x :: l, d, i, h => by
    have h1 : i < d.size := by simp only [List.length_cons] at h; omega
    rw [List.map_cons, List.flatten_cons, setMany_append (flatK encSp 2 d), flat_set d i x h1]
    have e : i * 2 + (encSp x).length = (i + 1) * 2 := by show i * 2 + 2 = _; omega
    rw [e, flat_lay l _ (i + 1) (by simp only [List.length_cons] at h; simpa using (by omega : i + 1 + l.length ≤ d.size))]
    rfl
theorem sw_lay {w : World} {g m i : Nat} {d : Array (Int × Int)} {os : Array Obj} (l : List (Int × Int)) (hg : g < w.heap.size) (h : i + l.length ≤ d.size) :
    (sortWorldK encSp 2 w g 0 m d os).setCells g (i * 2) (l.map encSp).flatten = sortWorldK encSp 2 w g 0 m (lay d i l) os := by
  unfold sortWorldK
  rw [setCells_grow os g _ _ _ (by rw [size_putRowK]; exact hg)]
  congr 1
  show (putRow id (Sort.ahead w m) g 0 (flatK encSp 2 d)).setCells g (i * 2) _ = putRow id (Sort.ahead w m) g 0 (flatK encSp 2 (lay d i l))
  rw [← flat_lay l d i h, ← setCells_putRow (Sort.ahead w m) g 0 _ (i * 2) _ (by rw [flat_len, size_flatK]; omega), Nat.zero_add]
theorem zeros2 (n : Nat) : (Builtin.zeroCells #[Value.int .u32 0, .int .u32 0] n).toList = ((List.replicate n ((0 : Int), (0 : Int))).map encSp).flatten := by
  apply List.ext_getElem?
  intro t
  by_cases ht : t < n * 2
  · rw [flat_get _ t (by simpa using ht), Array.getElem?_toList]
    have h1 : t < (Builtin.zeroCells #[Value.int .u32 0, .int .u32 0] n).size := by rw [size_zeroCells]; simpa using ht
    rw [Array.getElem?_eq_getElem h1]
    have h2 : t / 2 < n := by omega
    have h3 : (List.replicate n ((0 : Int), (0 : Int)))[t / 2]! = (0, 0) := by simp [h2]
    rw [h3]
    congr 1
    have hm : t % 2 < 2 := Nat.mod_lt _ (by decide)
    have h4 : t % 2 = 0 ∨ t % 2 = 1 := by omega
    rcases h4 with h4 | h4 <;> simp [Builtin.zeroCells, encSp, h4]
  · rw [List.getElem?_eq_none (by rw [Array.length_toList, size_zeroCells]; simpa using ht), List.getElem?_eq_none (by rw [flat_len, List.length_replicate]; omega)]
theorem run_clear2 (w : World) (ty : TypeId) (g i n c : Nat) (dk : Array (Int × Int)) (hH : HoldsK encSp 2 w g 0 dk) (hn : 0 < n) (hin : i + n ≤ dk.size) :
    (Builtin.clear_ #[107] ty #[.slice (some ⟨g, i * 2, none⟩) n c]).run Tryz.prog w = .ok (.tuple #[]) (w.setCells g (i * 2) ((List.replicate n ((0 : Int), (0 : Int))).map encSp).flatten) := by
  have hst := stores_of_holds Tryz.prog hH (i * 2) ((List.replicate n ((0 : Int), (0 : Int))).map encSp).flatten (by rw [flat_len, List.length_replicate, size_flatK]; omega) (fun v hv => by
    obtain ⟨l, hl, hul⟩ := List.mem_flatten.1 hv
    obtain ⟨x, _, rfl⟩ := List.mem_map.1 hl
    simp only [encSp, List.mem_cons, List.not_mem_nil, or_false] at hul
    rcases hul with rfl | rfl <;> rfl)
  rw [Nat.zero_add] at hst
  rw [← zeros2] at hst ⊢
  obtain ⟨m, rfl⟩ : ∃ m, n = m + 1 := ⟨n - 1, by omega⟩
  have hz := Tryz.zeroValue83
  have hc : (Value.agg #[Value.int .u32 0, .int .u32 0]).cells = #[Value.int .u32 0, .int .u32 0] := rfl
  simp [Builtin.clear_, run_underlying Tryz.underlying107, hz, hc, hst]
theorem delete_none (g cap : Nat) (d : Array (Int × Int)) (w : World) (hH : HoldsK encSp 2 w g 0 d) (hblk : g < w.heap.size) (hsz : d.size ≤ 9223372036854775807) (hidx : Lib.idxBy (fun _ y => badS y) d.toList default = -1) :
    Calls Tryz.prog 122 #[.slice (some ⟨g, 0, none⟩) d.size cap, .func (.func 124) #[] #[]] w fun e w' => e = .returned (.slice (some ⟨g, 0, none⟩) d.size cap) ∧ Below w.heap.size w w' := by
  have hIF := index_calls g cap d w hH hblk hsz
  rw [hidx] at hIF
  clear hH
  go_enter Tryz.func122, Tryz.ntmps122
  go_wp2_with (go_at_call 170; refine hIF.mono ?_; rintro e w' ⟨rfl, hb⟩)
  go_ret
  exact ⟨rfl, hb⟩
theorem delete_some (g cap k0 : Nat) (d : Array (Int × Int)) (w : World) (hH : HoldsK encSp 2 w g 0 d) (hblk : g < w.heap.size) (hsz : d.size ≤ 4611686018427387904) (hcap : d.size ≤ cap) (hcm : cap ≤ maxLen) (kp : Nat → Bool) (hkp : ∀ j, j < d.size → kp j = !badS d[j]!)
    (hidx : Lib.idxBy (fun _ y => badS y) d.toList default = (k0 : Int)) (hk0 : k0 < d.size) (hkeep : ∀ j, j < k0 → kp j = true) (hdrop : kp k0 = false) :
    Calls Tryz.prog 122 #[.slice (some ⟨g, 0, none⟩) d.size cap, .func (.func 124) #[] #[]] w fun e w' => e = .returned (.slice (some ⟨g, 0, none⟩) (keptUpTo kp d d.size).length cap) ∧
      ∃ w1 q os, Below w.heap.size w w1 ∧ w' = sortWorldK encSp 2 w1 g 0 q (keptUpTo kp d d.size ++ List.replicate (d.size - (keptUpTo kp d d.size).length) (0, 0)).toArray os := by
  have hIF := index_calls g cap d w hH hblk (by omega)
  rw [hidx] at hIF
  have hne1 : ((k0 : Int) == -1) = false := beq_eq_false_iff_ne.2 (by omega)
  have HH : Aside (HoldsK encSp 2 w g 0 d) := hH
  have HK : Aside (∀ j, j < d.size → kp j = !badS d[j]!) := hkp
  clear hH hkp
  go_enter Tryz.func122, Tryz.ntmps122
  go_wp2_with (go_at_call 170; refine hIF.mono ?_; rintro e w1 ⟨rfl, hb1⟩)
  have hblk1 : g < w1.heap.size := Nat.lt_of_lt_of_le hblk hb1.size
  have hH1 : HoldsK encSp 2 w1 g 0 d := by
    intro j hj
    have h0 := HH.out j hj
    exact ⟨by rw [hb1.cell (p := ⟨g, 0 + j, none⟩) hblk]; exact h0.1, by
      have := World.frozen?_of_block (w := w) (w' := w1) (a := ⟨g, 0 + j, none⟩) (hb1.block g hblk)
      rw [this]; exact h0.2⟩
  have HH1 : Aside (HoldsK encSp 2 w1 g 0 d) := hH1
  have HB : Aside (Below w.heap.size w w1) := hb1
  clear hH1 hb1
  go_loopg [5, 6, 7] d.size (fun gg s5 s6 _ wr => ∃ (i j q : Nat) (os : Array Obj) (dk : Array (Int × Int)), s5 = .int .i64 i ∧ s6 = .int .i64 j ∧ j ≤ d.size ∧ d.size - j ≤ gg ∧ wr = sortWorldK encSp 2 w1 g 0 q dk os ∧ Aside (KeptInv kp d j i dk))
  case atStart => exact ⟨k0, k0 + 1, 0, #[], d, rfl, by go_num, by omega, by omega, by
    unfold sortWorldK
    rw [grow_empty]
    exact (putRowK_self encSp 2 w1 g 0 d HH1.out).symm, KeptInv.start hkeep hdrop⟩
  case round =>
    obtain ⟨i, j, q, os, dk, rfl, rfl, hjd, hgg, hwr, I2⟩ := hrel
    have hI := I2.out
    have hij := hI.lt
    have hds := hI.size
    have hHk : HoldsK encSp 2 wr g 0 dk := by rw [hwr]; exact holdsK_sortWorldK_c encSp 2 w1 g 0 d dk q os HH1.out hblk1 hds
    have W2 : Aside (wr = sortWorldK encSp 2 w1 g 0 q dk os) := hwr
    have hgr : g < wr.heap.size := by rw [hwr]; exact Nat.lt_of_lt_of_le hblk1 (size_sortWorldK_c encSp 2 w1 g 0 q dk os)
    by_cases hlt : j < d.size
    · have hltz : (j : Int) < (d.size : Int) := by omega
      have cj := HoldsK.cells hHk (fun _ => rfl) (i := j) (by omega)
      rw [hI.high j (by omega)] at cj
      have c0 : wr.cell? ⟨g, j * 2, none⟩ = some (.int .u32 d[j]!.1) := by simpa [Addr.add] using cj 0 _ rfl
      have c1 : wr.cell? ⟨g, j * 2 + 1, none⟩ = some (.int .u32 d[j]!.2) := by simpa [Addr.add] using cj 1 _ rfl
      have hcall : ∀ W, Calls Tryz.prog 124 #[.agg #[.int .u32 d[j]!.1, .int .u32 d[j]!.2]] W fun e w' => e = .returned (.bool (badS d[j]!)) ∧ ∃ q os', w' = grow (W.drewN q) os' := fun W => bad_calls W d[j]!
      clear hHk hI hwr cj
      generalize hq : badS d[j]! = bq at hcall
      generalize hu1 : d[j]!.1 = u1 at c0 hcall
      generalize hu2 : d[j]!.2 = u2 at c1 hcall
      have swA : ∀ o, (sortWorldK encSp 2 w1 g 0 q dk os).alloc o = sortWorldK encSp 2 w1 g 0 q dk (os ++ #[o]) := fun o => by
        unfold sortWorldK
        rw [alloc_eq_grow, grow_grow]
      have eW : ∀ qq os', grow ((wr.alloc (.cells #[.int .u32 u1, .int .u32 u2] 83)).drewN qq) os' = sortWorldK encSp 2 w1 g 0 (q + qq) dk (os ++ #[.cells #[.int .u32 u1, .int .u32 u2] 83] ++ os') := fun qq os' => by
        rw [W2.out, swA]
        exact sortWorldK_grown_c encSp 2 w1 g 0 q qq dk _ os'
      cases bq with
      | true =>
        have HC : Aside (∀ W, Calls Tryz.prog 124 #[.agg #[.int .u32 u1, .int .u32 u2]] W fun e w' => e = .returned (.bool true) ∧ ∃ q os', w' = grow (W.drewN q) os') := hcall
        clear hcall
        go_wp2_with fail
        refine (HC.out _).mono ?_
        rintro e w' ⟨rfl, qq, os', rfl⟩
        rw [eW]
        generalize hW3 : sortWorldK encSp 2 w1 g 0 (q + qq) dk (os ++ #[.cells #[.int .u32 u1, .int .u32 u2] 83] ++ os') = W3
        go_wp2
        go_roundg (d.size - (j + 1))
        case measure => omega
        case rel => exact ⟨i, j + 1, q + qq, _, dk, rfl, by go_num, by omega, Nat.le_refl _, hW3.symm, I2.out.skip (by rw [HK.out j hlt, hq]; rfl)⟩
      | false =>
        have HC : Aside (∀ W, Calls Tryz.prog 124 #[.agg #[.int .u32 u1, .int .u32 u2]] W fun e w' => e = .returned (.bool false) ∧ ∃ q os', w' = grow (W.drewN q) os') := hcall
        clear hcall
        go_wp2_with fail
        refine (HC.out _).mono ?_
        rintro e w' ⟨rfl, qq, os', rfl⟩
        have hnew : ∀ t v, (#[Value.int .u32 u1, .int .u32 u2] : Array Value)[t]? = some v → (grow ((wr.alloc (.cells #[.int .u32 u1, .int .u32 u2] 83)).drewN qq) os').cell? ⟨wr.heap.size, t, none⟩ = some v := fun t v ht => by
          have hb : wr.heap.size < ((wr.alloc (.cells #[.int .u32 u1, .int .u32 u2] 83)).drewN qq).heap.size := by simp [World.drewN]
          rw [cell?_grow _ _ _ hb]
          have hn := heap_alloc_new wr (.cells #[.int .u32 u1, .int .u32 u2] 83)
          show (wr.alloc (.cells #[.int .u32 u1, .int .u32 u2] 83)).cell? ⟨wr.heap.size, t, none⟩ = some v
          unfold World.cell?
          simp only [hn]
          exact ht
        have n0 := hnew 0 _ rfl
        have n1 := hnew 1 _ rfl
        clear hnew
        rw [eW] at n0 n1
        rw [eW]
        have hHk3 : HoldsK encSp 2 (sortWorldK encSp 2 w1 g 0 (q + qq) dk (os ++ #[.cells #[.int .u32 u1, .int .u32 u2] 83] ++ os')) g 0 dk := holdsK_sortWorldK_c encSp 2 w1 g 0 d dk _ _ HH1.out hblk1 hds
        generalize hW3 : sortWorldK encSp 2 w1 g 0 (q + qq) dk (os ++ #[.cells #[.int .u32 u1, .int .u32 u2] 83] ++ os') = W3 at n0 n1 hHk3
        have ci := HoldsK.cells hHk3 (fun _ => rfl) (i := i) (by omega)
        have s0 : W3.cell? ⟨g, i * 2, none⟩ = some (.int .u32 dk[i]!.1) := by simpa [Addr.add] using ci 0 _ rfl
        have s1 : W3.cell? ⟨g, i * 2 + 1, none⟩ = some (.int .u32 dk[i]!.2) := by simpa [Addr.add] using ci 1 _ rfl
        clear ci
        have f0 : W3.frozen? ⟨g, i * 2, none⟩ = false := by
          have := (hHk3 (i * 2) (by rw [size_flatK]; omega)).2
          rwa [Nat.zero_add] at this
        have f1 : W3.frozen? ⟨g, i * 2 + 1, none⟩ = false := by
          have := (hHk3 (i * 2 + 1) (by rw [size_flatK]; omega)).2
          rwa [Nat.zero_add] at this
        have t1 : (W3.setCell ⟨g, i * 2, none⟩ (.int .u32 u1)).cell? ⟨g, i * 2 + 1, none⟩ = some (.int .u32 dk[i]!.2) := by
          have := World.cell?_setCells_out g [.int .u32 u1] (i * 2) W3 ⟨g, i * 2 + 1, none⟩ (fun _ _ => .inr (by simp))
          exact this.trans s1
        have t2 : (W3.setCell ⟨g, i * 2, none⟩ (.int .u32 u1)).frozen? ⟨g, i * 2 + 1, none⟩ = false := by
          rw [show (W3.setCell ⟨g, i * 2, none⟩ (.int .u32 u1)).frozen? ⟨g, i * 2 + 1, none⟩ = W3.frozen? ⟨g, i * 2 + 1, none⟩ from by rw [setCell_eq, frozen?_mapBlock]]
          exact f1
        clear hHk3
        go_wp2_with fail
        go_roundg (d.size - (j + 1))
        case measure => omega
        case rel =>
          refine ⟨i + 1, j + 1, q + qq, os ++ #[.cells #[.int .u32 u1, .int .u32 u2] 83] ++ os', dk.setIfInBounds i d[j]!, by go_num, by go_num, by omega, Nat.le_refl _, ?_, (show Aside _ from I2.out.keep hlt (by rw [HK.out j hlt, hq]; rfl))⟩
          have e := sw_lay (w := w1) (g := g) (m := q + qq) (i := i) (d := dk) (os := os ++ #[.cells #[.int .u32 u1, .int .u32 u2] 83] ++ os') [(u1, u2)] hblk1 (by show i + 1 ≤ _; omega)
          rw [hW3] at e
          have eu : d[j]! = (u1, u2) := Prod.ext hu1 hu2
          rw [eu]
          exact e
    · obtain rfl : j = d.size := by omega
      have hltz : ¬ (d.size : Int) < (d.size : Int) := by omega
      have hcl : ∀ ty, (Builtin.clear_ #[107] ty #[.slice (some ⟨g, i * 2, none⟩) (d.size - i) (cap - i)]).run Tryz.prog wr = .ok (.tuple #[]) (wr.setCells g (i * 2) ((List.replicate (d.size - i) ((0 : Int), (0 : Int))).map encSp).flatten) :=
        fun ty => run_clear2 wr ty g i (d.size - i) (cap - i) dk hHk (by omega) (by omega)
      have hE := sw_lay (w := w1) (g := g) (m := q) (i := i) (d := dk) (os := os) (List.replicate (d.size - i) ((0 : Int), (0 : Int))) hblk1 (by rw [List.length_replicate]; omega)
      rw [← hwr] at hE
      have HE : Aside _ := hE
      clear hHk hI hwr hE
      go_wp2
      go_ret
      have hI := I2.out
      refine ⟨by rw [hI.len]; rfl, w1, HB.out, q, os, ?_⟩
      rw [← List.map_replicate, HE.out, hI.len, ← hI.done (0, 0)]

def slices_DeleteFunc (l : List (Int × Int)) : Option (List (Int × Int)) := if decide (l.length ≤ 4611686018427387904) = true then some (l.filter fun x => !badS x) else none
theorem delete_calls (g cap : Nat) (l : List (Int × Int)) (w : World) (hH : HoldsK encSp 2 w g 0 l.toArray) (hblk : g < w.heap.size) (hsz : l.length ≤ 4611686018427387904) (hcap : l.length ≤ cap) (hcm : cap ≤ maxLen) :
    Calls Tryz.prog 122 #[.slice (some ⟨g, 0, none⟩) l.length cap, .func (.func 124) #[] #[]] w fun e w' => e = .returned (.slice (some ⟨g, 0, none⟩) (l.filter fun x => !badS x).length cap) ∧
      ∃ w1 q os d', Below w.heap.size w w1 ∧ w' = sortWorldK encSp 2 w1 g 0 q d' os ∧ d'.size = l.length ∧ d'.toList.take (l.filter fun x => !badS x).length = l.filter fun x => !badS x := by
  have tl : ∀ j, j < l.length → l[j]! = l.toArray[j]! := fun j hj => by simp
  obtain ⟨kp, hkp⟩ : ∃ kp : Nat → Bool, kp = fun j => !badS l.toArray[j]! := ⟨_, rfl⟩
  have hfil : (l.filter fun x => !badS x) = keptUpTo kp l.toArray l.toArray.size := by rw [hkp]; exact (keptUpTo_filter (fun x => !badS x) l.toArray).symm
  rcases idxByFrom_spec (fun _ y => badS y) default l 0 with ⟨e1, hall⟩ | ⟨k0, hk0, e1, ht, hall⟩
  · have h := delete_none g cap l.toArray w hH hblk (by simp; omega) e1
    have hfl : (l.filter fun x => !badS x) = l := List.filter_eq_self.2 fun x hx => by
      obtain ⟨j, hj, rfl⟩ := List.getElem_of_mem hx
      have := hall j hj
      rw [getElem!_pos l j hj] at this
      rw [this]; rfl
    have h' : Calls Tryz.prog 122 #[.slice (some ⟨g, 0, none⟩) l.length cap, .func (.func 124) #[] #[]] w fun e w' => e = .returned (.slice (some ⟨g, 0, none⟩) l.length cap) ∧ Below w.heap.size w w' := h
    refine h'.mono ?_
    rintro e w' ⟨rfl, hb⟩
    rw [hfl]
    refine ⟨rfl, w', 0, #[], l.toArray, hb, ?_, by simp, by simp⟩
    have hH1 : HoldsK encSp 2 w' g 0 l.toArray := by
      intro j hj
      have h0 := hH j hj
      exact ⟨by rw [hb.cell (p := ⟨g, 0 + j, none⟩) hblk]; exact h0.1, by
        have := World.frozen?_of_block (w := w) (w' := w') (a := ⟨g, 0 + j, none⟩) (hb.block g hblk)
        rw [this]; exact h0.2⟩
    unfold sortWorldK
    rw [grow_empty]
    exact (putRowK_self encSp 2 w' g 0 l.toArray hH1).symm
  · have hk1 : k0 < l.toArray.size := by simpa using hk0
    have h := delete_some g cap k0 l.toArray w hH hblk (by simpa using hsz) (by simpa using hcap) hcm kp (fun j hj => by rw [hkp]) (by
      show Lib.idxBy (fun _ y => badS y) l default = _
      unfold Lib.idxBy; rw [e1]; simp) hk1 (fun j hj => by rw [hkp]; show (!badS l.toArray[j]!) = true; rw [← tl j (by omega), hall j hj]; rfl) (by
      rw [hkp]; show (!badS l.toArray[k0]!) = false; rw [← tl k0 hk0, ht]; rfl)
    rw [hfil]
    refine h.mono ?_
    rintro e w' ⟨rfl, w1, q, os, hb, rfl⟩
    have hle : (keptUpTo kp l.toArray l.toArray.size).length ≤ l.toArray.size := by
      rw [← hfil]
      simpa using List.length_filter_le (fun x => !badS x) l
    refine ⟨rfl, w1, q, os, _, hb, rfl, ?_, ?_⟩
    · simp only [List.size_toArray, List.length_append, List.length_replicate]
      simp only [List.size_toArray] at hle
      omega
    · simp
theorem index_nil (c : Nat) (w : World) : Calls Tryz.prog 170 #[.slice none 0 c, .func (.func 124) #[] #[]] w fun e w' => e = .returned (.int .i64 (-1)) ∧ w' = w := by
  go_enter Tryz.func170, Tryz.ntmps170
  go_wp2
  refine wp_loop_rounds 1 ?_
  rw [rounds_succ]
  go_wp2
  go_ret
  exact ⟨rfl, rfl⟩
theorem delete_nil (c : Nat) (w : World) : Calls Tryz.prog 122 #[.slice none 0 c, .func (.func 124) #[] #[]] w fun e w' => e = .returned (.slice none 0 c) ∧ w' = w := by
  have h := index_nil c w
  go_enter Tryz.func122, Tryz.ntmps122
  go_wp2_with (go_at_call 170; refine h.mono ?_; rintro e w' ⟨rfl, rfl⟩)
  go_ret
  exact ⟨rfl, rfl⟩
noncomputable def slices_DeleteFunc_s : TSum := TSum.one ⟨[.r ksSp], 2, [(0, .own 0), (1, .fn 124 [] [])], [⟨0, 0, .row true 83 ksSp⟩]⟩ (List (Int × Int)) (fun v => slices_DeleteFunc v) (fun l => (.own 0 1, [⟨0, 1, .row true 83 ksSp l⟩]))
theorem slices_DeleteFunc_v {gl : Glob} (hg : Gs gl) : ValidS Tryz.prog gl 122 slices_DeleteFunc_s := by
  intro args ents v o hu hF Fr RO ρ own w vals hgl H hρ hents hd
  obtain ⟨rfl, rfl⟩ := rowFn_inv hu
  have hF' : slices_DeleteFunc v = some o := hF
  unfold slices_DeleteFunc at hF'
  split at hF'
  case isFalse => cases hF'
  rename_i hlen
  rw [decide_eq_true_eq] at hlen
  cases hF'
  change List (Int × Int) at v
  obtain ⟨X, hvals, hX⟩ : ∃ X, vals = #[X, .func (.func 124) #[] #[]] ∧ ρ 0 0 = some X := by
    obtain ⟨vl⟩ := vals
    match vl, hd with
    | [X, Y], hd =>
      obtain ⟨h1, ⟨fa, ca, hY, hfa, hca⟩, _⟩ := hd
      have e1 : fa = #[] := by
        obtain ⟨l⟩ := fa
        cases l with
        | nil => rfl
        | cons _ _ => exact False.elim hfa
      have e2 : ca = #[] := by
        obtain ⟨l⟩ := ca
        cases l with
        | nil => rfl
        | cons _ _ => exact False.elim hca
      subst e1 e2
      subst hY
      exact ⟨X, rfl, h1⟩
  subst hvals
  obtain ⟨_, X', hX', hh1⟩ := H.ent 0 ⟨0, 0, .row true 83 2 (rowsSp v)⟩ rfl
  have hh : holds ρ X' (own 0) RO w (.row true 83 2 (rowsSp v)) := hh1
  obtain rfl : X' = X := Option.some.inj (hX'.symm.trans hX)
  obtain ⟨vs, hrow, hcells, hown, hlens⟩ := hh
  have hvs := cells_sp v vs hcells
  subst hvs
  rw [rowsSp_len] at hrow
  -- what it comes to
  have key : Calls Tryz.prog 122 #[X', .func (.func 124) #[] #[]] w fun e w' => ∃ v', e = .returned v' ∧ w'.ownsRow 0 83 2 v' (v.filter fun x => !badS x).length ((v.filter fun x => !badS x).map encSp).flatten ∧
      (∀ k, v'.ownBlock = some k → own 0 k ∧ k < w'.heap.size) ∧ Adv (fun k => k < w.heap.size ∧ ¬ own 0 k) w w' := by
    rcases hrow.2 with ⟨hs, h0⟩ | ⟨g, cap, cur, hs, hbase, hgg, hnc, hcm, hcs, htk⟩
    · have hv0 : v = [] := List.length_eq_zero_iff.1 h0
      subst hv0
      subst hs
      refine (delete_nil 0 w).mono ?_
      rintro e w' ⟨rfl, rfl⟩
      exact ⟨_, rfl, World.ownsRow_nil _ 0 83 2, (fun k hk => by cases hk), Adv.refl _ _⟩
    · subst hs
      have hblk : g < w.heap.size := (Array.getElem?_eq_some_iff.1 hgg).1
      have hfl : (flatK encSp 2 v.toArray).size = v.length * 2 := by rw [size_flatK]; simp
      have hH : HoldsK encSp 2 w g 0 v.toArray := by
        refine holds_of_blockV hgg ?_
        rw [hfl, htk, flatK_list]
      refine (delete_calls g cap v w hH hblk hlen hnc hcm).mono ?_
      rintro e w' ⟨rfl, w1, q, os, d', hb, rfl, hds, hdt⟩
      have hgg1 : w1.heap[g]? = some (.cells cur 83 (0, 0)) := (hb.block g hblk).trans hgg
      have hfd : (flatK encSp 2 d').size = v.length * 2 := by rw [size_flatK, hds]
      have hheap : (sortWorldK encSp 2 w1 g 0 q d' os).heap[g]? = some (.cells (putCells id 0 (flatK encSp 2 d') cur) 83 (0, 0)) := heap_sortedV _ hgg1
      have hle : (v.filter fun x => !badS x).length ≤ v.length := List.length_filter_le _ _
      refine ⟨_, rfl, ⟨flat_len _, .inr ⟨g, cap, _, rfl, Nat.zero_le _, hheap, Nat.le_trans hle hnc, hcm, by simp [putCells, hcs], ?_⟩⟩, fun k hk => ?_, ?_⟩
      · have ht := take_putCellsV cur (flatK encSp 2 d') (by rw [hfd, hcs]; exact Nat.mul_le_mul_right 2 hnc)
        have e1 : (putCells id 0 (flatK encSp 2 d') cur).toList.take ((v.filter fun x => !badS x).length * 2) = ((putCells id 0 (flatK encSp 2 d') cur).toList.take (flatK encSp 2 d').size).take ((v.filter fun x => !badS x).length * 2) := by
          rw [List.take_take]
          congr 1
          rw [hfd]
          omega
        rw [e1, ht]
        have e2 : flatK encSp 2 d' = flatK encSp 2 d'.toList.toArray := by simp
        rw [e2, flatK_list]
        have e3 : (d'.toList.map encSp).flatten = ((d'.toList.take (v.filter fun x => !badS x).length).map encSp).flatten ++ ((d'.toList.drop (v.filter fun x => !badS x).length).map encSp).flatten := by
          rw [← List.flatten_append, ← List.map_append, List.take_append_drop]
        rw [e3, hdt]
        exact List.take_left' (flat_len _)
      · have hkg : g = k := by simpa [Value.ownBlock] using hk
        subst hkg
        exact ⟨(hown g).2 rfl, (Array.getElem?_eq_some_iff.1 hheap).1⟩
      · refine ⟨hb.os, hb.tape, hb.output, ?_, fun k hk => ?_⟩
        · show w.heap.size ≤ (grow (putRow id (Sort.ahead w1 q) g 0 _) os).heap.size
          have := hb.size
          simp only [grow, Array.size_append, Go.Sort.size_putRow, heap_ahead]
          omega
        · have hne : g ≠ k := fun hc => hk.2 ((hown k).2 (by rw [← hc]; rfl))
          show (grow (putRow id (Sort.ahead w1 q) g 0 _) os).heap[k]? = _
          rw [heap_grow_old _ _ (by simp only [Go.Sort.size_putRow, heap_ahead]; exact Nat.lt_of_lt_of_le hk.1 hb.size), ← hb.block k hk.1]
          simp [putRow, mapBlock, Sort.ahead, Array.getElem?_modify, hne]
  refine key.mono ?_
  rintro e w' ⟨v', rfl, hrow', hfresh, hadv⟩
  obtain ⟨H', hle⟩ := H.upd 0 1 (.row true 83 2 (rowsSp (v.filter fun x => !badS x))) v' (fun k => v'.ownBlock = some k) (.inr rfl) (fun e he => by cases he; exact Nat.zero_le _) hadv
    ⟨((v.filter fun x => !badS x).map encSp).flatten, by rw [rowsSp_len]; exact hrow', cells_sp' _, fun k => Iff.rfl, rowsSp_two _⟩ (fun k hk => ⟨.inl (hfresh k hk).1, (hfresh k hk).2⟩)
  refine ⟨v', _, _, RO, rfl, H', by simp [D, Rho.set, slices_DeleteFunc_s, TSum.one], fun b hb => ⟨?_, fun x hx => ?_⟩, fun _ h => h, .loose (hadv.mono fun k hk => ?_) hg.ne⟩
  · have hb0 : b = 0 := by simp [eraH] at hb; exact hb
    subst hb0
    exact ⟨_, rfl⟩
  · have hb0 : b = 0 := by simp [eraH] at hb; exact hb
    subst hb0
    simpa [Rho.set] using hx
  · rcases hk with hk | hk
    · exact ⟨(H.rofr k hk).2, fun hc => (H.ro 0 k hc).1 hk⟩
    · exact ⟨H.fr k hk, fun hc => (H.ro 0 k hc).2.1 hk⟩
end Go.Tx
