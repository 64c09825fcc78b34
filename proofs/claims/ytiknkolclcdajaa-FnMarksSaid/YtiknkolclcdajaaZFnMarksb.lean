/- Made by a program of ours out of the print of the loaded functions: for each of some functions a plain function, and the walk that shows that a call comes to what it says. No condition but those of each theorem. -/
import Derived.Test.YtiknkolclcdajaaZFnMarks0
import Derived.Test.YtiknkolclcdajaaZFnMarksa
namespace Go.Proofs.Ytiknkolclcdajaa.Q
open Go.RowKit Go.Proofs.YtiknkolclcdajaaW.PrintWords Go.Proofs.YtiknkolclcdajaaW.PrintLast Go.Proofs.YtiknkolclcdajaaW.PrintMore
attribute [local go_sem] max2_int min2_int max_two min_two max_three min_three max_four min_four   -- for this text's walks alone
set_option linter.unusedVariables false
set_option linter.unusedSimpArgs false

/-! ### spec_l5At: function 176 -/
def spec_l5At.l0 : Nat → Int → Int → Int → List Int → List Int → List Int → Option (Int)
  | 0, _, _, _, _, _, _ => none
  | k + 1, x1, x5, x1358000, x1358001, x1358002, x1358003 => if x5 < (x1358001.length : Int) then (if 0 ≤ x5 then (if (rd x1358001 x5) = x1 then (some x5) else (spec_l5At.l0 k x1 (wrap64 (x5 + 1)) x1358000 x1358001 x1358002 x1358003)) else (none)) else (some (-1))
def spec_l5At.f (k : Nat) (a0_0 : Int) (l0_1 : List Int) (l0_2 : List Int) (l0_3 : List Int) (a1 : Int) : Option (Int) := spec_l5At.l0 k a1 0 a0_0 l0_1 l0_2 l0_3
theorem spec_l5At.mono_l : ∀ k, (∀ y0 y1 y2 y3 y4 y5, LeO (spec_l5At.l0 k y0 y1 y2 y3 y4 y5) (spec_l5At.l0 (k + 1) y0 y1 y2 y3 y4 y5))
  | 0 => fun _ _ _ _ _ _ r h => by simp [spec_l5At.l0] at h
  | k + 1 => by
    have ih0 := spec_l5At.mono_l k
    · intro y0 y1 y2 y3 y4 y5
      unfold spec_l5At.l0
      repeat' first
      | (with_reducible exact ih0 _ _ _ _ _ _)
      | (with_reducible exact LeO.refl _)
      | (with_reducible exact LeO.none _)
      | (with_reducible refine LeO.ite ?_ ?_)
      | (with_reducible refine LeO.bind ?_ (fun _ => ?_))
      | exact ih0 _ _ _ _ _ _
      | exact LeO.none _
      | refine LeO.ite ?_ ?_
      | refine LeO.bind ?_ (fun _ => ?_)
theorem spec_l5At.mono : ∀ a0 a1 a2 a3 a4 k, LeO (spec_l5At.f k a0 a1 a2 a3 a4) (spec_l5At.f (k + 1) a0 a1 a2 a3 a4) := by
  intro a0 a1 a2 a3 a4 k
  have ih0 := spec_l5At.mono_l k
  unfold spec_l5At.f
  repeat' first
      | (with_reducible exact ih0 _ _ _ _ _ _)
      | (with_reducible exact LeO.refl _)
      | (with_reducible exact LeO.none _)
      | (with_reducible refine LeO.ite ?_ ?_)
      | (with_reducible refine LeO.bind ?_ (fun _ => ?_))
      | exact ih0 _ _ _ _ _ _
      | exact LeO.none _
      | refine LeO.ite ?_ ?_
      | refine LeO.bind ?_ (fun _ => ?_)
set_option maxHeartbeats 8000000 in
set_option maxRecDepth 100000 in
theorem spec_l5At.calls (k : Nat) (a0_0 : Int) (A0_1 : Option Addr) (c0_1 : Nat) (l0_1 : List Int) (A0_2 : Option Addr) (c0_2 : Nat) (l0_2 : List Int) (A0_3 : Option Addr) (c0_3 : Nat) (l0_3 : List Int) (a1 : Int) (r : Int) (w : World) (hr0_1 : Kd.C (Kd.int .i64) w A0_1 l0_1.length l0_1) (hc0_1 : l0_1.length ≤ c0_1) (hr0_2 : Kd.C (Kd.int .i64) w A0_2 l0_2.length l0_2) (hc0_2 : l0_2.length ≤ c0_2) (hr0_3 : Kd.C (Kd.int .i64) w A0_3 l0_3.length l0_3) (hc0_3 : l0_3.length ≤ c0_3) (h : spec_l5At.f k a0_0 l0_1 l0_2 l0_3 a1 = some r) :
    Calls Try.prog 176 #[.agg #[.int .i64 a0_0, .slice A0_1 l0_1.length c0_1, .slice A0_2 l0_2.length c0_2, .slice A0_3 l0_3.length c0_3], .int .i64 a1] w fun e w' => e = .returned (.int .i64 r) ∧ Below w.heap.size w w' := by
  have hu26 := Try.underlying26
  have HR0_1 := Aside0.mk hr0_1
  have HC0_1 := Aside0.mk hc0_1
  clear hr0_1 hc0_1
  have HR0_2 := Aside0.mk hr0_2
  have HC0_2 := Aside0.mk hc0_2
  clear hr0_2 hc0_2
  have HR0_3 := Aside0.mk hr0_3
  have HC0_3 := Aside0.mk hc0_3
  clear hr0_3 hc0_3
  have HB := Aside0.mk (Below.refl w.heap.size w)
  have H : (spec_l5At.l0 k a1 0 a0_0 l0_1 l0_2 l0_3) = some r := h
  clear h
  have H' := Aside0.mk H
  clear H
  go_enter Try.func176, Try.ntmps176
  go_wp2_with (first | ((with_reducible refine gate_dst (N := 2) rfl ?_); refine box_event ?hg (N := 2) ?hd (cs := #[.int .i64 a0_0, .slice A0_1 l0_1.length c0_1, .slice A0_2 l0_2.length c0_2, .slice A0_3 l0_3.length c0_3]) (t := 26) ?hr ?_; (case hd => rfl); (case hg => rfl); (case hr => first | (go_simp; done) | (go_simp; rfl)); intro gb1357 hg w3 hbox hb; have n0_ := Aside0.mk (below_step (by repeat (first | (with_reducible first | exact HB.out | apply below_alloc | apply pw_below_drewN | apply below_drew1) | exact HB.out)) hb); have n1_ := Aside0.mk (hbox); have n2_ := Aside0.mk ((by rw [hg]; exact (below_size (by repeat (first | (with_reducible first | exact HB.out | apply below_alloc | apply pw_below_drewN | apply below_drew1) | exact HB.out))) : w.heap.size ≤ gb1357)); have n3_ := Aside0.mk ((by rw [hg]; exact (below_size (by repeat (first | (with_reducible first | exact HB.out | apply below_alloc | apply pw_below_drewN | apply below_drew1) | exact HB.out))) : w.heap.size ≤ gb1357)); clear HB; have HB := n0_; have BK1357 := n1_; have GW1357 := n2_; have GE1357 := n3_; clear n0_ n1_ n2_ n3_; clear hb hbox hg))
  go_loopg [5] k (fun kq v5 w' => ∃ (x5_1 : Int), v5 = .int .i64 x5_1 ∧ Aside0 (spec_l5At.l0 kq a1 x5_1 a0_0 l0_1 l0_2 l0_3 = some r) ∧ Aside0 (kq ≤ k) ∧ Aside0 (w'.heap[gb1357]? = some (.cells #[.int .i64 a0_0, (.slice A0_1 l0_1.length c0_1), (.slice A0_2 l0_2.length c0_2), (.slice A0_3 l0_3.length c0_3)] 26 (0, 0))) ∧ Aside0 (Below w.heap.size w w'))
  case atStart => exact ⟨(0), (by first | rfl | (simp; done) | (simp [*]; done)), H', ⟨Nat.le_refl _⟩, ⟨by (with_reducible repeat (first | refine blk_drewN ?_ _ | refine blk_drew ?_ | refine blk_alloc ?_ _)); exact BK1357.out⟩, ⟨by repeat (first | (with_reducible first | exact HB.out | apply below_alloc | apply pw_below_drewN | apply below_drew1 | refine below_set ?_ GE1357.out) | exact HB.out)⟩⟩
  case round =>
    clear H'
    try clear c1
    try clear p2
    obtain ⟨x5_1, rfl, HA, HK1, BK1357, HB⟩ := hrel
    cases gk with
    | zero => exact absurd HA.out (by simp [spec_l5At.l0])
    | succ k1 =>
      have H := HA.out
      clear HA
      simp only [spec_l5At.l0] at H
      by_cases c4 : x5_1 < (l0_1.length : Int)
      · rw [if_pos c4] at H
        have c4b0 : decide (x5_1 < (l0_1.length : Int)) = true := decide_eq_true c4
        clear c4
        by_cases c5 : 0 ≤ x5_1
        · rw [if_pos c5] at H
          have c5b0 : decide (0 ≤ x5_1) = true := decide_eq_true c5
          clear c5
          by_cases c6 : (rd l0_1 x5_1) = a1
          · rw [if_pos c6] at H
            have c6b0 : ((rd l0_1 x5_1) == a1) = true := beq_iff_eq.mpr c6
            have c6b1 : ((rd l0_1 x5_1) != a1) = false := bne_eq_false_iff_eq.mpr c6
            clear c6
            obtain rfl := Option.some.inj H
            have hcz7_0 : wr.cell? ⟨gb1357, 0, none⟩ = some (.int .i64 a0_0) := (blk_cell BK1357.out 0).trans rfl
            have hcz7_1 : wr.cell? ⟨gb1357, 1, none⟩ = some (.slice A0_1 l0_1.length c0_1) := (blk_cell BK1357.out 1).trans rfl
            have hcz7_2 : wr.cell? ⟨gb1357, 2, none⟩ = some (.slice A0_2 l0_2.length c0_2) := (blk_cell BK1357.out 2).trans rfl
            have hcz7_3 : wr.cell? ⟨gb1357, 3, none⟩ = some (.slice A0_3 l0_3.length c0_3) := (blk_cell BK1357.out 3).trans rfl
            have hfz7_0 := blk_frozen BK1357.out 0
            have hfz7_1 := blk_frozen BK1357.out 1
            have hfz7_2 := blk_frozen BK1357.out 2
            have hfz7_3 := blk_frozen BK1357.out 3
            have p1358 : 0 ≤ (x5_1 : Int) := of_decide_eq_true (by first | (with_reducible assumption) | assumption)
            have q1358 : x5_1 < (l0_1.length : Int) := of_decide_eq_true (by first | (with_reducible assumption) | assumption)
            obtain ⟨ad1358, e1358, hx1358_0⟩ := Kd.at_int HR0_1.out x5_1 p1358 q1358
            cases e1358
            replace hx1358_0 := (HB.out.cell (World.block_lt_of_cell? w _ hx1358_0)).trans hx1358_0
            replace p1358 := eq_true p1358
            replace q1358 := eq_true q1358
            go_wp2
            go_ret
            exact ⟨by first | rfl | (simp [errW_none, errW_some] <;> rfl) | (simp [*, errW_none, errW_some] <;> rfl), by repeat (first | (with_reducible first | exact HB.out | apply below_alloc | apply pw_below_drewN | apply below_drew1 | refine below_set ?_ GE1357.out) | exact HB.out)⟩
          · rw [if_neg c6] at H
            have c6b0 : ((rd l0_1 x5_1) == a1) = false := beq_eq_false_iff_ne.mpr c6
            have c6b1 : ((rd l0_1 x5_1) != a1) = true := bne_iff_ne.mpr c6
            have H' := Aside0.mk H
            clear H
            have hcz8_0 : wr.cell? ⟨gb1357, 0, none⟩ = some (.int .i64 a0_0) := (blk_cell BK1357.out 0).trans rfl
            have hcz8_1 : wr.cell? ⟨gb1357, 1, none⟩ = some (.slice A0_1 l0_1.length c0_1) := (blk_cell BK1357.out 1).trans rfl
            have hcz8_2 : wr.cell? ⟨gb1357, 2, none⟩ = some (.slice A0_2 l0_2.length c0_2) := (blk_cell BK1357.out 2).trans rfl
            have hcz8_3 : wr.cell? ⟨gb1357, 3, none⟩ = some (.slice A0_3 l0_3.length c0_3) := (blk_cell BK1357.out 3).trans rfl
            have hfz8_0 := blk_frozen BK1357.out 0
            have hfz8_1 := blk_frozen BK1357.out 1
            have hfz8_2 := blk_frozen BK1357.out 2
            have hfz8_3 := blk_frozen BK1357.out 3
            have p1358 : 0 ≤ (x5_1 : Int) := of_decide_eq_true (by first | (with_reducible assumption) | assumption)
            have q1358 : x5_1 < (l0_1.length : Int) := of_decide_eq_true (by first | (with_reducible assumption) | assumption)
            obtain ⟨ad1358, e1358, hx1358_0⟩ := Kd.at_int HR0_1.out x5_1 p1358 q1358
            cases e1358
            replace hx1358_0 := (HB.out.cell (World.block_lt_of_cell? w _ hx1358_0)).trans hx1358_0
            replace p1358 := eq_true p1358
            replace q1358 := eq_true q1358
            go_wp2
            go_roundg k1
            case measure => have := HK1.out; omega
            case rel => exact ⟨(wrap64 (x5_1 + 1)), (by first | rfl | (simp; done) | (simp [*]; done)), H', ⟨by have := HK1.out; omega⟩, ⟨by (with_reducible repeat (first | refine blk_drewN ?_ _ | refine blk_drew ?_ | refine blk_alloc ?_ _)); exact BK1357.out⟩, ⟨by repeat (first | (with_reducible first | exact HB.out | apply below_alloc | apply pw_below_drewN | apply below_drew1 | refine below_set ?_ GE1357.out) | exact HB.out)⟩⟩
        · rw [if_neg c5] at H
          exact absurd H (by simp)
      · rw [if_neg c4] at H
        have c4b0 : decide (x5_1 < (l0_1.length : Int)) = false := decide_eq_false c4
        clear c4
        obtain rfl := Option.some.inj H
        have hcz9_0 : wr.cell? ⟨gb1357, 0, none⟩ = some (.int .i64 a0_0) := (blk_cell BK1357.out 0).trans rfl
        have hcz9_1 : wr.cell? ⟨gb1357, 1, none⟩ = some (.slice A0_1 l0_1.length c0_1) := (blk_cell BK1357.out 1).trans rfl
        have hcz9_2 : wr.cell? ⟨gb1357, 2, none⟩ = some (.slice A0_2 l0_2.length c0_2) := (blk_cell BK1357.out 2).trans rfl
        have hcz9_3 : wr.cell? ⟨gb1357, 3, none⟩ = some (.slice A0_3 l0_3.length c0_3) := (blk_cell BK1357.out 3).trans rfl
        have hfz9_0 := blk_frozen BK1357.out 0
        have hfz9_1 := blk_frozen BK1357.out 1
        have hfz9_2 := blk_frozen BK1357.out 2
        have hfz9_3 := blk_frozen BK1357.out 3
        go_wp2
        go_ret
        exact ⟨by first | rfl | (simp [errW_none, errW_some] <;> rfl) | (simp [*, errW_none, errW_some] <;> rfl), by repeat (first | (with_reducible first | exact HB.out | apply below_alloc | apply pw_below_drewN | apply below_drew1 | refine below_set ?_ GE1357.out) | exact HB.out)⟩
/-! ### spec_l5Without: function 177 -/
abbrev spec_l5Without.m0 : Array Bool := #[false, false, false, false, false, false, false, false, false, false, false, false, false, false]
abbrev spec_l5Without.m1 : Array Bool := #[false, true, false, false, false, false, false, false, false, false, false, false, false, false]
abbrev spec_l5Without.m2 : Array Bool := #[false, true, false, true, false, false, false, false, false, false, false, false, false, false]
abbrev spec_l5Without.m3 : Array Bool := #[false, true, false, true, false, false, true, false, false, false, false, false, false, false]
abbrev spec_l5Without.m4 : Array Bool := #[false, true, false, true, false, false, true, false, true, false, false, false, false, false]
abbrev spec_l5Without.m5 : Array Bool := #[false, true, false, true, false, false, true, false, true, true, false, false, false, false]
abbrev spec_l5Without.m6 : Array Bool := #[false, true, true, true, false, false, true, false, true, true, false, false, false, false]
abbrev spec_l5Without.m7 : Array Bool := #[false, true, true, true, true, false, true, false, true, true, false, false, false, false]
abbrev spec_l5Without.m8 : Array Bool := #[false, true, true, true, true, false, true, true, true, true, false, false, false, false]
abbrev spec_l5Without.m9 : Array Bool := #[false, true, true, true, true, false, true, true, true, true, true, false, false, false]
abbrev spec_l5Without.m10 : Array Bool := #[true, true, true, true, true, false, true, true, true, true, true, false, false, false]
abbrev spec_l5Without.m11 : Array Bool := #[true, true, true, true, true, true, true, true, true, true, true, false, false, false]
abbrev spec_l5Without.m12 : Array Bool := #[true, true, true, true, true, true, true, true, true, true, true, true, false, false]
abbrev spec_l5Without.m13 : Array Bool := #[true, true, true, true, true, true, true, true, true, true, true, true, true, false]
abbrev spec_l5Without.m14 : Array Bool := #[true, true, true, true, true, true, true, true, true, true, true, true, true, true]
def spec_l5Without.f (a0_0 : Int) (l0_1 : List Int) (l0_2 : List Int) (l0_3 : List Int) (a1 : Int) : Option (Int × List Int × List Int × List Int) := (spec_l5Copy.f a0_0 l0_1 l0_2 l0_3).bind fun bt1361 => ((some (([] : List Int) : List Int)).bind fun y1372 => (if 0 ≤ a1 then (if a1 ≤ (l0_1.length : Int) then (if y1372.length + (l0_1.take (a1 : Int).toNat).length < 17592186044416 then ((some (y1372 ++ (l0_1.take (a1 : Int).toNat) : List Int)).bind fun y1376 => (if 0 ≤ (wrap64 (a1 + 1)) then (if (wrap64 (a1 + 1)) ≤ (l0_1.length : Int) then (if y1376.length + (l0_1.drop ((wrap64 (a1 + 1)) : Int).toNat).length < 17592186044416 then ((some (y1376 ++ (l0_1.drop ((wrap64 (a1 + 1)) : Int).toNat) : List Int)).bind fun y1380 => (if a1 < (l0_2.length : Int) then ((some (([] : List Int) : List Int)).bind fun y1383 => (if a1 ≤ (l0_2.length : Int) then (if y1383.length + (l0_2.take (a1 : Int).toNat).length < 17592186044416 then ((some (y1383 ++ (l0_2.take (a1 : Int).toNat) : List Int)).bind fun y1387 => (if (wrap64 (a1 + 1)) ≤ (l0_2.length : Int) then (if y1387.length + (l0_2.drop ((wrap64 (a1 + 1)) : Int).toNat).length < 17592186044416 then (some (bt1361.1, y1380, (y1387 ++ (l0_2.drop ((wrap64 (a1 + 1)) : Int).toNat)), bt1361.2.2.2)) else (none)) else (none))) else (none)) else (none))) else (some (bt1361.1, y1380, bt1361.2.2.1, bt1361.2.2.2)))) else (none)) else (none)) else (none))) else (none)) else (none)) else (none)))
def spec_l5Without.T2 : Bool × List (List Nat × List Nat) := (true, [([], []), ([], []), ([1], [1]), ([], []), ([2, 3], [2, 3]), ([0, 4], [0, 4]), ([], []), ([6], [6]), ([], []), ([8], [8]), ([7, 9], [7, 9]), ([5, 10, 5], [5, 10]), ([0, 1, 2, 3, 4, 5, 6, 7, 8, 9, 10, 11], []), ([12, 11, 11, 0, 1, 2, 3, 4, 5, 6, 7, 8, 9, 10, 11], [11, 12])])
def spec_l5Without.B2 : List Nat := [0, 0, 2, 0, 14, 31, 0, 64, 0, 256, 960, 2047, 4095, 8191]
theorem spec_l5Without.tab2 : rtab .any (opsOf Try.f177 2) = spec_l5Without.T2 := by kernel_rfl
theorem spec_l5Without.bits2 : waitsOk spec_l5Without.T2.2 spec_l5Without.B2 = true := by kernel_rfl
def spec_l5Without.T4 : Bool × List (List Nat × List Nat) := (true, [([], []), ([], []), ([1], [1]), ([], []), ([2, 3], [2, 3]), ([0, 4], [0, 4]), ([], []), ([6], [6]), ([], []), ([8], [8]), ([7, 9], [7, 9]), ([5, 10, 5], [5, 10]), ([0, 1, 2, 3, 4, 5, 6, 7, 8, 9, 10, 11], []), ([12, 11, 11, 0, 1, 2, 3, 4, 5, 6, 7, 8, 9, 10, 11], [11, 12])])
def spec_l5Without.B4 : List Nat := [0, 0, 2, 0, 14, 31, 0, 64, 0, 256, 960, 2047, 4095, 8191]
theorem spec_l5Without.tab4 : rtab .any (opsOf Try.f177 4) = spec_l5Without.T4 := by kernel_rfl
theorem spec_l5Without.bits4 : waitsOk spec_l5Without.T4.2 spec_l5Without.B4 = true := by kernel_rfl
set_option maxHeartbeats 8000000 in
set_option maxRecDepth 100000 in
theorem spec_l5Without.calls (a0_0 : Int) (A0_1 : Option Addr) (c0_1 : Nat) (l0_1 : List Int) (A0_2 : Option Addr) (c0_2 : Nat) (l0_2 : List Int) (A0_3 : Option Addr) (c0_3 : Nat) (l0_3 : List Int) (a1 : Int) (r1 : Int) (r2 : List Int) (r3 : List Int) (r4 : List Int) (w : World) (hr0_1 : Kd.C (Kd.int .i64) w A0_1 l0_1.length l0_1) (hc0_1 : l0_1.length ≤ c0_1) (hr0_2 : Kd.C (Kd.int .i64) w A0_2 l0_2.length l0_2) (hc0_2 : l0_2.length ≤ c0_2) (hr0_3 : Kd.C (Kd.int .i64) w A0_3 l0_3.length l0_3) (hc0_3 : l0_3.length ≤ c0_3) (h : spec_l5Without.f a0_0 l0_1 l0_2 l0_3 a1 = some (r1, r2, r3, r4)) :
 Calls Try.prog 177 #[.agg #[.int .i64 a0_0, .slice A0_1 l0_1.length c0_1, .slice A0_2 l0_2.length c0_2, .slice A0_3 l0_3.length c0_3], .int .i64 a1] w fun e w' => ∃ v1_ v2_ v3_ : Value, e = .returned (.agg #[.int .i64 r1, v1_, v2_, v3_]) ∧ Kd.R (Kd.int .i64) 3 w' w.heap.size (fun k_ => some k_ ≠ (v2_ : Value).ownBlock ∧ some k_ ≠ (v3_ : Value).ownBlock) v1_ r2 ∧ Kd.R (Kd.int .i64) 3 w' w.heap.size (fun k_ => some k_ ≠ (v1_ : Value).ownBlock ∧ some k_ ≠ (v3_ : Value).ownBlock) v2_ r3 ∧ Kd.R (Kd.int .i64) 3 w' w.heap.size (fun k_ => some k_ ≠ (v1_ : Value).ownBlock ∧ some k_ ≠ (v2_ : Value).ownBlock) v3_ r4 ∧ Below w.heap.size w w' := by
 have hu26 := Try.underlying26
 have HR0_1 := Aside0.mk hr0_1
 have HC0_1 := Aside0.mk hc0_1
 clear hr0_1 hc0_1
 have HR0_2 := Aside0.mk hr0_2
 have HC0_2 := Aside0.mk hc0_2
 clear hr0_2 hc0_2
 have HR0_3 := Aside0.mk hr0_3
 have HC0_3 := Aside0.mk hc0_3
 clear hr0_3 hc0_3
 have HB := Aside0.mk (Below.refl w.heap.size w)
 have H : ((spec_l5Copy.f a0_0 l0_1 l0_2 l0_3).bind fun bt1361 => ((some (([] : List Int) : List Int)).bind fun y1372 => (if 0 ≤ a1 then (if a1 ≤ (l0_1.length : Int) then (if y1372.length + (l0_1.take (a1 : Int).toNat).length < 17592186044416 then ((some (y1372 ++ (l0_1.take (a1 : Int).toNat) : List Int)).bind fun y1376 => (if 0 ≤ (wrap64 (a1 + 1)) then (if (wrap64 (a1 + 1)) ≤ (l0_1.length : Int) then (if y1376.length + (l0_1.drop ((wrap64 (a1 + 1)) : Int).toNat).length < 17592186044416 then ((some (y1376 ++ (l0_1.drop ((wrap64 (a1 + 1)) : Int).toNat) : List Int)).bind fun y1380 => (if a1 < (l0_2.length : Int) then ((some (([] : List Int) : List Int)).bind fun y1383 => (if a1 ≤ (l0_2.length : Int) then (if y1383.length + (l0_2.take (a1 : Int).toNat).length < 17592186044416 then ((some (y1383 ++ (l0_2.take (a1 : Int).toNat) : List Int)).bind fun y1387 => (if (wrap64 (a1 + 1)) ≤ (l0_2.length : Int) then (if y1387.length + (l0_2.drop ((wrap64 (a1 + 1)) : Int).toNat).length < 17592186044416 then (some (bt1361.1, y1380, (y1387 ++ (l0_2.drop ((wrap64 (a1 + 1)) : Int).toNat)), bt1361.2.2.2)) else (none)) else (none))) else (none)) else (none))) else (some (bt1361.1, y1380, bt1361.2.2.1, bt1361.2.2.2)))) else (none)) else (none)) else (none))) else (none)) else (none)) else (none)))) = some (r1, r2, r3, r4) := h
 clear h
 replace H := Option.bind_eq_some_iff.mp H
 obtain ⟨⟨t1361, t1362, t1365, t1368⟩, A30, H⟩ := H
 replace H : ((some (([] : List Int) : List Int)).bind fun y1372 => (if 0 ≤ a1 then (if a1 ≤ (l0_1.length : Int) then (if y1372.length + (l0_1.take (a1 : Int).toNat).length < 17592186044416 then ((some (y1372 ++ (l0_1.take (a1 : Int).toNat) : List Int)).bind fun y1376 => (if 0 ≤ (wrap64 (a1 + 1)) then (if (wrap64 (a1 + 1)) ≤ (l0_1.length : Int) then (if y1376.length + (l0_1.drop ((wrap64 (a1 + 1)) : Int).toNat).length < 17592186044416 then ((some (y1376 ++ (l0_1.drop ((wrap64 (a1 + 1)) : Int).toNat) : List Int)).bind fun y1380 => (if a1 < (l0_2.length : Int) then ((some (([] : List Int) : List Int)).bind fun y1383 => (if a1 ≤ (l0_2.length : Int) then (if y1383.length + (l0_2.take (a1 : Int).toNat).length < 17592186044416 then ((some (y1383 ++ (l0_2.take (a1 : Int).toNat) : List Int)).bind fun y1387 => (if (wrap64 (a1 + 1)) ≤ (l0_2.length : Int) then (if y1387.length + (l0_2.drop ((wrap64 (a1 + 1)) : Int).toNat).length < 17592186044416 then (some (t1361, y1380, (y1387 ++ (l0_2.drop ((wrap64 (a1 + 1)) : Int).toNat)), t1368)) else (none)) else (none))) else (none)) else (none))) else (some (t1361, y1380, t1365, t1368)))) else (none)) else (none)) else (none))) else (none)) else (none)) else (none))) = some (r1, r2, r3, r4) := H
 have A3 := Aside0.mk A30
 clear A30
 obtain ⟨y1372, hy1372⟩ : ∃ y_ : List Int, y_ = (([] : List Int)) := ⟨_, rfl⟩
 replace H : (if 0 ≤ a1 then (if a1 ≤ (l0_1.length : Int) then (if y1372.length + (l0_1.take (a1 : Int).toNat).length < 17592186044416 then ((some (y1372 ++ (l0_1.take (a1 : Int).toNat) : List Int)).bind fun y1376 => (if 0 ≤ (wrap64 (a1 + 1)) then (if (wrap64 (a1 + 1)) ≤ (l0_1.length : Int) then (if y1376.length + (l0_1.drop ((wrap64 (a1 + 1)) : Int).toNat).length < 17592186044416 then ((some (y1376 ++ (l0_1.drop ((wrap64 (a1 + 1)) : Int).toNat) : List Int)).bind fun y1380 => (if a1 < (l0_2.length : Int) then ((some (([] : List Int) : List Int)).bind fun y1383 => (if a1 ≤ (l0_2.length : Int) then (if y1383.length + (l0_2.take (a1 : Int).toNat).length < 17592186044416 then ((some (y1383 ++ (l0_2.take (a1 : Int).toNat) : List Int)).bind fun y1387 => (if (wrap64 (a1 + 1)) ≤ (l0_2.length : Int) then (if y1387.length + (l0_2.drop ((wrap64 (a1 + 1)) : Int).toNat).length < 17592186044416 then (some (t1361, y1380, (y1387 ++ (l0_2.drop ((wrap64 (a1 + 1)) : Int).toNat)), t1368)) else (none)) else (none))) else (none)) else (none))) else (some (t1361, y1380, t1365, t1368)))) else (none)) else (none)) else (none))) else (none)) else (none)) else (none)) = some (r1, r2, r3, r4) := by first | (rw [hy1372]; with_reducible exact H) | (have H2_ := (Option.bind_some _ _).symm.trans H; rw [hy1372]; with_reducible exact H2_) | (have H2_ := (Option.bind_some _ _).symm.trans H; with_reducible exact H2_) | with_reducible exact H | (rw [hy1372]; exact H) | exact H
 have Ny1372 := Aside0.mk hy1372
 clear hy1372
 by_cases c4 : 0 ≤ a1
 ·
  rw [if_pos c4] at H
  have c4b0 := eq_true c4
  have c4b1 : decide (0 ≤ a1) = true := decide_eq_true c4
  clear c4
  by_cases c5 : a1 ≤ (l0_1.length : Int)
  ·
   rw [if_pos c5] at H
   have c5b0 := eq_true c5
   have c5b1 : decide (a1 ≤ (l0_1.length : Int)) = true := decide_eq_true c5
   clear c5
   by_cases c6 : y1372.length + (l0_1.take (a1 : Int).toNat).length < 17592186044416
   ·
    rw [if_pos c6] at H
    have LMc6 := Aside0.mk c6
    clear c6
    obtain ⟨y1376, hy1376⟩ : ∃ y_ : List Int, y_ = (y1372 ++ (l0_1.take (a1 : Int).toNat)) := ⟨_, rfl⟩
    replace H : (if 0 ≤ (wrap64 (a1 + 1)) then (if (wrap64 (a1 + 1)) ≤ (l0_1.length : Int) then (if y1376.length + (l0_1.drop ((wrap64 (a1 + 1)) : Int).toNat).length < 17592186044416 then ((some (y1376 ++ (l0_1.drop ((wrap64 (a1 + 1)) : Int).toNat) : List Int)).bind fun y1380 => (if a1 < (l0_2.length : Int) then ((some (([] : List Int) : List Int)).bind fun y1383 => (if a1 ≤ (l0_2.length : Int) then (if y1383.length + (l0_2.take (a1 : Int).toNat).length < 17592186044416 then ((some (y1383 ++ (l0_2.take (a1 : Int).toNat) : List Int)).bind fun y1387 => (if (wrap64 (a1 + 1)) ≤ (l0_2.length : Int) then (if y1387.length + (l0_2.drop ((wrap64 (a1 + 1)) : Int).toNat).length < 17592186044416 then (some (t1361, y1380, (y1387 ++ (l0_2.drop ((wrap64 (a1 + 1)) : Int).toNat)), t1368)) else (none)) else (none))) else (none)) else (none))) else (some (t1361, y1380, t1365, t1368)))) else (none)) else (none)) else (none)) = some (r1, r2, r3, r4) := by first | (rw [hy1376]; with_reducible exact H) | (have H2_ := (Option.bind_some _ _).symm.trans H; rw [hy1376]; with_reducible exact H2_) | (have H2_ := (Option.bind_some _ _).symm.trans H; with_reducible exact H2_) | with_reducible exact H | (rw [hy1376]; exact H) | exact H
    have Ny1376 := Aside0.mk hy1376
    clear hy1376
    obtain ⟨ji7, hji7⟩ : ∃ j_ : Int, (wrap64 (a1 + 1)) = j_ := ⟨_, rfl⟩
    replace H : (if 0 ≤ (ji7) then (if (ji7) ≤ (l0_1.length : Int) then (if y1376.length + (l0_1.drop ((ji7) : Int).toNat).length < 17592186044416 then ((some (y1376 ++ (l0_1.drop ((ji7) : Int).toNat) : List Int)).bind fun y1380 => (if a1 < (l0_2.length : Int) then ((some (([] : List Int) : List Int)).bind fun y1383 => (if a1 ≤ (l0_2.length : Int) then (if y1383.length + (l0_2.take (a1 : Int).toNat).length < 17592186044416 then ((some (y1383 ++ (l0_2.take (a1 : Int).toNat) : List Int)).bind fun y1387 => (if (ji7) ≤ (l0_2.length : Int) then (if y1387.length + (l0_2.drop ((ji7) : Int).toNat).length < 17592186044416 then (some (t1361, y1380, (y1387 ++ (l0_2.drop ((ji7) : Int).toNat)), t1368)) else (none)) else (none))) else (none)) else (none))) else (some (t1361, y1380, t1365, t1368)))) else (none)) else (none)) else (none)) = some (r1, r2, r3, r4) := by first | (rw [hji7] at H; exact H) | (simp only [hji7] at H ⊢; exact H)
    (try rw [hji7] at A3)
    have hji7w : (IntKind.i64.wrap (a1 + 1)) = ji7 := (i64_w _).trans hji7
    by_cases c8 : 0 ≤ (ji7)
    ·
     rw [if_pos c8] at H
     have c8b0 := eq_true c8
     have c8b1 : decide (0 ≤ (ji7)) = true := decide_eq_true c8
     clear c8
     by_cases c9 : (ji7) ≤ (l0_1.length : Int)
     ·
      rw [if_pos c9] at H
      have c9b0 := eq_true c9
      have c9b1 : decide ((ji7) ≤ (l0_1.length : Int)) = true := decide_eq_true c9
      clear c9
      by_cases c10 : y1376.length + (l0_1.drop ((ji7) : Int).toNat).length < 17592186044416
      ·
       rw [if_pos c10] at H
       have LMc10 := Aside0.mk c10
       clear c10
       obtain ⟨y1380, hy1380⟩ : ∃ y_ : List Int, y_ = (y1376 ++ (l0_1.drop ((ji7) : Int).toNat)) := ⟨_, rfl⟩
       replace H : (if a1 < (l0_2.length : Int) then ((some (([] : List Int) : List Int)).bind fun y1383 => (if a1 ≤ (l0_2.length : Int) then (if y1383.length + (l0_2.take (a1 : Int).toNat).length < 17592186044416 then ((some (y1383 ++ (l0_2.take (a1 : Int).toNat) : List Int)).bind fun y1387 => (if (ji7) ≤ (l0_2.length : Int) then (if y1387.length + (l0_2.drop ((ji7) : Int).toNat).length < 17592186044416 then (some (t1361, y1380, (y1387 ++ (l0_2.drop ((ji7) : Int).toNat)), t1368)) else (none)) else (none))) else (none)) else (none))) else (some (t1361, y1380, t1365, t1368))) = some (r1, r2, r3, r4) := by first | (rw [hy1380]; with_reducible exact H) | (have H2_ := (Option.bind_some _ _).symm.trans H; rw [hy1380]; with_reducible exact H2_) | (have H2_ := (Option.bind_some _ _).symm.trans H; with_reducible exact H2_) | with_reducible exact H | (rw [hy1380]; exact H) | exact H
       have Ny1380 := Aside0.mk hy1380
       clear hy1380
       by_cases c11 : a1 < (l0_2.length : Int)
       ·
        rw [if_pos c11] at H
        have c11b0 : decide (a1 < (l0_2.length : Int)) = true := decide_eq_true c11
        clear c11
        obtain ⟨y1383, hy1383⟩ : ∃ y_ : List Int, y_ = (([] : List Int)) := ⟨_, rfl⟩
        replace H : (if a1 ≤ (l0_2.length : Int) then (if y1383.length + (l0_2.take (a1 : Int).toNat).length < 17592186044416 then ((some (y1383 ++ (l0_2.take (a1 : Int).toNat) : List Int)).bind fun y1387 => (if (ji7) ≤ (l0_2.length : Int) then (if y1387.length + (l0_2.drop ((ji7) : Int).toNat).length < 17592186044416 then (some (t1361, y1380, (y1387 ++ (l0_2.drop ((ji7) : Int).toNat)), t1368)) else (none)) else (none))) else (none)) else (none)) = some (r1, r2, r3, r4) := by first | (rw [hy1383]; with_reducible exact H) | (have H2_ := (Option.bind_some _ _).symm.trans H; rw [hy1383]; with_reducible exact H2_) | (have H2_ := (Option.bind_some _ _).symm.trans H; with_reducible exact H2_) | with_reducible exact H | (rw [hy1383]; exact H) | exact H
        have Ny1383 := Aside0.mk hy1383
        clear hy1383
        have c12b0 := eq_true (of_decide_eq_true (by first | (with_reducible assumption) | assumption) : 0 ≤ a1)
        by_cases c13 : a1 ≤ (l0_2.length : Int)
        ·
         rw [if_pos c13] at H
         have c13b0 := eq_true c13
         have c13b1 : decide (a1 ≤ (l0_2.length : Int)) = true := decide_eq_true c13
         clear c13
         by_cases c14 : y1383.length + (l0_2.take (a1 : Int).toNat).length < 17592186044416
         ·
          rw [if_pos c14] at H
          have LMc14 := Aside0.mk c14
          clear c14
          obtain ⟨y1387, hy1387⟩ : ∃ y_ : List Int, y_ = (y1383 ++ (l0_2.take (a1 : Int).toNat)) := ⟨_, rfl⟩
          replace H : (if (ji7) ≤ (l0_2.length : Int) then (if y1387.length + (l0_2.drop ((ji7) : Int).toNat).length < 17592186044416 then (some (t1361, y1380, (y1387 ++ (l0_2.drop ((ji7) : Int).toNat)), t1368)) else (none)) else (none)) = some (r1, r2, r3, r4) := by first | (rw [hy1387]; with_reducible exact H) | (have H2_ := (Option.bind_some _ _).symm.trans H; rw [hy1387]; with_reducible exact H2_) | (have H2_ := (Option.bind_some _ _).symm.trans H; with_reducible exact H2_) | with_reducible exact H | (rw [hy1387]; exact H) | exact H
          have Ny1387 := Aside0.mk hy1387
          clear hy1387
          have c15b0 := eq_true (of_decide_eq_true (by first | (with_reducible assumption) | assumption) : 0 ≤ (ji7))
          by_cases c16 : (ji7) ≤ (l0_2.length : Int)
          ·
           rw [if_pos c16] at H
           have c16b0 := eq_true c16
           have c16b1 : decide ((ji7) ≤ (l0_2.length : Int)) = true := decide_eq_true c16
           clear c16
           by_cases c17 : y1387.length + (l0_2.drop ((ji7) : Int).toNat).length < 17592186044416
           ·
            rw [if_pos c17] at H
            have LMc17 := Aside0.mk c17
            clear c17
            obtain ⟨y1391, hy1391⟩ : ∃ y_ : List Int, y_ = (y1387 ++ (l0_2.drop ((ji7) : Int).toNat)) := ⟨_, rfl⟩
            replace H : (some (t1361, y1380, y1391, t1368)) = some (r1, r2, r3, r4) := by first | (rw [hy1391]; with_reducible exact H) | (have H2_ := (Option.bind_some _ _).symm.trans H; rw [hy1391]; with_reducible exact H2_) | (have H2_ := (Option.bind_some _ _).symm.trans H; with_reducible exact H2_) | with_reducible exact H | (rw [hy1391]; exact H) | exact H
            have Ny1391 := Aside0.mk hy1391
            clear hy1391
            simp only [Option.some.injEq, Prod.mk.injEq] at H
            obtain ⟨rfl, rfl, rfl, rfl⟩ := H
            go_enter Try.func177, Try.ntmps177
            try go_wp2_with (first | ((with_reducible refine gate_dst (N := 2) rfl ?_); refine box_event ?hg (N := 2) ?hd (cs := #[.int .i64 a0_0, .slice A0_1 l0_1.length c0_1, .slice A0_2 l0_2.length c0_2, .slice A0_3 l0_3.length c0_3]) (t := 26) ?hr ?_; (case hd => rfl); (case hg => rfl); (case hr => first | (go_simp; done) | (go_simp; rfl)); intro gb1359 hg w18 hbox hb; have n0_ := Aside0.mk (below_step (hb_ HB.out) hb); have n1_ := Aside0.mk (hbox); have n2_ := Aside0.mk ((by rw [hg]; exact (below_size (hb_ HB.out)) : w.heap.size ≤ gb1359)); have n3_ := Aside0.mk ((by rw [hg]; exact (below_size (hb_ HB.out)) : w.heap.size ≤ gb1359)); clear HB; have HB := n0_; have BK1359 := n1_; have GW1359 := n2_; have GE1359 := n3_; clear n0_ n1_ n2_ n3_; clear hb hbox hg) | ((with_reducible refine gate_dst (N := 4) rfl ?_); refine box_event ?hg (N := 4) ?hd (cs := #[.int .i64 0, .slice none 0 0, .slice none 0 0, .slice none 0 0]) (t := 26) ?hr ?_; (case hd => rfl); (case hg => rfl); (case hr => first | (go_simp; done) | (go_simp; rfl)); intro gb1360 hg w19 hbox hb; have n0_ := Aside0.mk (bb_ BK1359.out hb); have n1_ := Aside0.mk (below_step (hb_ HB.out) hb); have n2_ := Aside0.mk (hbox); have n3_ := Aside0.mk ((by rw [hg]; exact (below_size (hb_ HB.out)) : w.heap.size ≤ gb1360)); have n4_ := Aside0.mk ((by rw [hg]; exact (below_size (hb_ HB.out)) : w.heap.size ≤ gb1360)); have n5_ := Aside0.mk ((nl_ BK1359.out hg : gb1359 ≠ gb1360)); have n6_ := Aside0.mk ((ng_ BK1359.out hg : gb1360 ≠ gb1359)); clear BK1359; clear HB; have BK1359 := n0_; have HB := n1_; have BK1360 := n2_; have GW1360 := n3_; have GE1360 := n4_; have NB1359_1360 := n5_; have NB1360_1359 := n6_; clear n0_ n1_ n2_ n3_ n4_ n5_ n6_; clear hb hbox hg; have hnb20 := NB1359_1360.out; have hnc20 := NB1360_1359.out; have hcz21_0 : w19.cell? ⟨gb1359, 0, none⟩ = some (.int .i64 a0_0) := (blk_cell BK1359.out 0).trans rfl; have hcz21_1 : w19.cell? ⟨gb1359, 1, none⟩ = some (.slice A0_1 l0_1.length c0_1) := (blk_cell BK1359.out 1).trans rfl; have hcz21_2 : w19.cell? ⟨gb1359, 2, none⟩ = some (.slice A0_2 l0_2.length c0_2) := (blk_cell BK1359.out 2).trans rfl; have hcz21_3 : w19.cell? ⟨gb1359, 3, none⟩ = some (.slice A0_3 l0_3.length c0_3) := (blk_cell BK1359.out 3).trans rfl; have hfz21_0 := blk_frozen BK1359.out 0; have hfz21_1 := blk_frozen BK1359.out 1; have hfz21_2 := blk_frozen BK1359.out 2; have hfz21_3 := blk_frozen BK1359.out 3) | ((with_reducible refine gate_callee (f := 83) rfl ?_); refine goesL_ (some 7) rfl rfl Try.func83 (by kernel_rfl) rfl #[.agg #[.int .i64 a0_0, .slice A0_1 l0_1.length c0_1, .slice A0_2 l0_2.length c0_2, .slice A0_3 l0_3.length c0_3]] rfl sm_ ?_; (with_reducible refine (spec_l5Copy.calls a0_0 _ _ l0_1 _ _ l0_2 _ _ l0_3 t1361 t1362 t1365 t1368 _ ?side1 ?side2 ?side3 ?side4 ?side5 ?side6 A3.out).mono ?_); (case side1 => repeat (first | exact (Kd.C_below HR0_1.out HB.out) | (with_reducible refine Kd.C_alloc ?_ _) | (with_reducible refine Kd.C_drewN ?_ _) | (with_reducible refine Kd.C_drew ?_))); (case side2 => exact HC0_1.out); (case side3 => repeat (first | exact (Kd.C_below HR0_2.out HB.out) | (with_reducible refine Kd.C_alloc ?_ _) | (with_reducible refine Kd.C_drewN ?_ _) | (with_reducible refine Kd.C_drew ?_))); (case side4 => exact HC0_2.out); (case side5 => repeat (first | exact (Kd.C_below HR0_3.out HB.out) | (with_reducible refine Kd.C_alloc ?_ _) | (with_reducible refine Kd.C_drewN ?_ _) | (with_reducible refine Kd.C_drew ?_))); (case side6 => exact HC0_3.out); rintro e w22 ⟨v1363, v1366, v1369, rfl, ho0, ho1, ho2, hb⟩; refine ⟨_, rfl, ?_⟩; have n0_ := Aside0.mk (Kd.R_lower ho0 (below_size (hb_ HB.out))); have n1_ := Aside0.mk (Kd.R_lower ho1 (below_size (hb_ HB.out))); have n2_ := Aside0.mk (Kd.R_lower ho2 (below_size (hb_ HB.out))); have n3_ := Aside0.mk (bb_ BK1359.out hb); have n4_ := Aside0.mk (bb_ BK1360.out hb); have n5_ := Aside0.mk (below_step (hb_ HB.out) hb); clear BK1359; clear BK1360; clear HB; have HO1364 := n0_; have HO1367 := n1_; have HO1370 := n2_; have BK1359 := n3_; have BK1360 := n4_; have HB := n5_; clear n0_ n1_ n2_ n3_ n4_ n5_; (try clear hb); (try clear hb2); (try clear hk); (try clear hi); (try clear ho0); (try clear ho1); (try clear ho2)) | ((with_reducible refine gate_dst (N := 5) rfl ?_); refine box_event ?hg (N := 5) ?hd (cs := #[.int .i64 0, .slice none 0 0, .slice none 0 0, .slice none 0 0]) (t := 26) ?hr ?_; (case hd => rfl); (case hg => rfl); (case hr => first | (go_simp; done) | (go_simp; rfl)); intro gb1371 hg w23 hbox hb; have n0_ := Aside0.mk (Kd.R_below (rq_ HO1364.out) hb); have n1_ := Aside0.mk (Kd.R_below (rq_ HO1367.out) hb); have n2_ := Aside0.mk (Kd.R_below (rq_ HO1370.out) hb); have n3_ := Aside0.mk (bb_ BK1359.out hb); have n4_ := Aside0.mk (bb_ BK1360.out hb); have n5_ := Aside0.mk (below_step (hb_ HB.out) hb); have n6_ := Aside0.mk (hbox); have n7_ := Aside0.mk ((by rw [hg]; exact (below_size (hb_ HB.out)) : w.heap.size ≤ gb1371)); have n8_ := Aside0.mk ((by rw [hg]; exact (below_size (hb_ HB.out)) : w.heap.size ≤ gb1371)); have n9_ := Aside0.mk ((nl_ BK1359.out hg : gb1359 ≠ gb1371)); have n10_ := Aside0.mk ((ng_ BK1359.out hg : gb1371 ≠ gb1359)); have n11_ := Aside0.mk ((nl_ BK1360.out hg : gb1360 ≠ gb1371)); have n12_ := Aside0.mk ((ng_ BK1360.out hg : gb1371 ≠ gb1360)); clear HO1364; clear HO1367; clear HO1370; clear BK1359; clear BK1360; clear HB; have HO1364 := n0_; have HO1367 := n1_; have HO1370 := n2_; have BK1359 := n3_; have BK1360 := n4_; have HB := n5_; have BK1371 := n6_; have GW1371 := n7_; have GE1371 := n8_; have NB1359_1371 := n9_; have NB1371_1359 := n10_; have NB1360_1371 := n11_; have NB1371_1360 := n12_; clear n0_ n1_ n2_ n3_ n4_ n5_ n6_ n7_ n8_ n9_ n10_ n11_ n12_; clear hb hbox hg; have hnb24 := NB1371_1359.out; have hnc24 := NB1359_1371.out; have hnb25 := NB1371_1360.out; have hnc25 := NB1360_1371.out; have hcz26_0 : w23.cell? ⟨gb1371, 0, none⟩ = some (.int .i64 0) := (blk_cell BK1371.out 0).trans rfl; have hcz26_1 : w23.cell? ⟨gb1371, 1, none⟩ = some (.slice none 0 0) := (blk_cell BK1371.out 1).trans rfl; have hcz26_2 : w23.cell? ⟨gb1371, 2, none⟩ = some (.slice none 0 0) := (blk_cell BK1371.out 2).trans rfl; have hcz26_3 : w23.cell? ⟨gb1371, 3, none⟩ = some (.slice none 0 0) := (blk_cell BK1371.out 3).trans rfl; have hfz26_0 := blk_frozen BK1371.out 0; have hfz26_1 := blk_frozen BK1371.out 1; have hfz26_2 := blk_frozen BK1371.out 2; have hfz26_3 := blk_frozen BK1371.out 3; obtain ⟨Ao27, co27, eo27⟩ := Kd.R_slice HO1364.out; subst eo27; obtain ⟨Ao28, co28, eo28⟩ := Kd.R_slice HO1367.out; subst eo28; obtain ⟨Ao29, co29, eo29⟩ := Kd.R_slice HO1370.out; subst eo29))
            have n0_ : Aside0 (Kd.R (Kd.int .i64) 3 ((((w23.setCell ⟨gb1371, 0, none⟩ (.int .i64 t1361)).setCell ⟨gb1371, 1, none⟩ (.slice Ao27 t1362.length co27)).setCell ⟨gb1371, 2, none⟩ (.slice Ao28 t1365.length co28)).setCell ⟨gb1371, 3, none⟩ (.slice Ao29 t1368.length co29)) w.heap.size (fun k_ => some k_ ≠ (.slice Ao28 t1365.length co28 : Value).ownBlock ∧ some k_ ≠ (.slice Ao29 t1368.length co29 : Value).ownBlock) (.slice Ao27 t1362.length co27) t1362) := ⟨by (with_reducible repeat (first | apply Kd.R_alloc | apply Kd.R_drewN | apply Kd.R_drew)); exact Kd.R_mono (Kd.R_far (p := ⟨gb1371, 3, none⟩) (Kd.R_far (p := ⟨gb1371, 2, none⟩) (Kd.R_far (p := ⟨gb1371, 1, none⟩) (Kd.R_far (p := ⟨gb1371, 0, none⟩) (Kd.R_types HO1364.out BK1371.out (by decide)) (fun _ hk => hk.2) (.int .i64 t1361)) (fun _ hk => hk.2) (.slice Ao27 t1362.length co27)) (fun _ hk => hk.2) (.slice Ao28 t1365.length co28)) (fun _ hk => hk.2) (.slice Ao29 t1368.length co29)) (fun _ hk => ⟨hk.1.1, hk.1.2⟩)⟩
            have n1_ : Aside0 (Kd.R (Kd.int .i64) 3 ((((w23.setCell ⟨gb1371, 0, none⟩ (.int .i64 t1361)).setCell ⟨gb1371, 1, none⟩ (.slice Ao27 t1362.length co27)).setCell ⟨gb1371, 2, none⟩ (.slice Ao28 t1365.length co28)).setCell ⟨gb1371, 3, none⟩ (.slice Ao29 t1368.length co29)) w.heap.size (fun k_ => some k_ ≠ (.slice Ao27 t1362.length co27 : Value).ownBlock ∧ some k_ ≠ (.slice Ao29 t1368.length co29 : Value).ownBlock) (.slice Ao28 t1365.length co28) t1365) := ⟨by (with_reducible repeat (first | apply Kd.R_alloc | apply Kd.R_drewN | apply Kd.R_drew)); exact Kd.R_mono (Kd.R_far (p := ⟨gb1371, 3, none⟩) (Kd.R_far (p := ⟨gb1371, 2, none⟩) (Kd.R_far (p := ⟨gb1371, 1, none⟩) (Kd.R_far (p := ⟨gb1371, 0, none⟩) (Kd.R_types HO1367.out BK1371.out (by decide)) (fun _ hk => hk.2) (.int .i64 t1361)) (fun _ hk => hk.2) (.slice Ao27 t1362.length co27)) (fun _ hk => hk.2) (.slice Ao28 t1365.length co28)) (fun _ hk => hk.2) (.slice Ao29 t1368.length co29)) (fun _ hk => ⟨hk.1.1, hk.1.2⟩)⟩
            have n2_ : Aside0 (Kd.R (Kd.int .i64) 3 ((((w23.setCell ⟨gb1371, 0, none⟩ (.int .i64 t1361)).setCell ⟨gb1371, 1, none⟩ (.slice Ao27 t1362.length co27)).setCell ⟨gb1371, 2, none⟩ (.slice Ao28 t1365.length co28)).setCell ⟨gb1371, 3, none⟩ (.slice Ao29 t1368.length co29)) w.heap.size (fun k_ => some k_ ≠ (.slice Ao27 t1362.length co27 : Value).ownBlock ∧ some k_ ≠ (.slice Ao28 t1365.length co28 : Value).ownBlock) (.slice Ao29 t1368.length co29) t1368) := ⟨by (with_reducible repeat (first | apply Kd.R_alloc | apply Kd.R_drewN | apply Kd.R_drew)); exact Kd.R_mono (Kd.R_far (p := ⟨gb1371, 3, none⟩) (Kd.R_far (p := ⟨gb1371, 2, none⟩) (Kd.R_far (p := ⟨gb1371, 1, none⟩) (Kd.R_far (p := ⟨gb1371, 0, none⟩) (Kd.R_types HO1370.out BK1371.out (by decide)) (fun _ hk => hk.2) (.int .i64 t1361)) (fun _ hk => hk.2) (.slice Ao27 t1362.length co27)) (fun _ hk => hk.2) (.slice Ao28 t1365.length co28)) (fun _ hk => hk.2) (.slice Ao29 t1368.length co29)) (fun _ hk => ⟨hk.1.1, hk.1.2⟩)⟩
            have n3_ : Aside0 (((((w23.setCell ⟨gb1371, 0, none⟩ (.int .i64 t1361)).setCell ⟨gb1371, 1, none⟩ (.slice Ao27 t1362.length co27)).setCell ⟨gb1371, 2, none⟩ (.slice Ao28 t1365.length co28)).setCell ⟨gb1371, 3, none⟩ (.slice Ao29 t1368.length co29)).heap[gb1359]? = some (.cells #[.int .i64 a0_0, .slice A0_1 l0_1.length c0_1, .slice A0_2 l0_2.length c0_2, .slice A0_3 l0_3.length c0_3] 26 (0, 0))) := ⟨by (with_reducible repeat (first | refine blk_drewN ?_ _ | refine blk_drew ?_ | refine blk_alloc ?_ _)); refine blk_far ?_ NB1359_1371.out _; (with_reducible repeat (first | refine blk_drewN ?_ _ | refine blk_drew ?_ | refine blk_alloc ?_ _)); refine blk_far ?_ NB1359_1371.out _; (with_reducible repeat (first | refine blk_drewN ?_ _ | refine blk_drew ?_ | refine blk_alloc ?_ _)); refine blk_far ?_ NB1359_1371.out _; (with_reducible repeat (first | refine blk_drewN ?_ _ | refine blk_drew ?_ | refine blk_alloc ?_ _)); refine blk_far ?_ NB1359_1371.out _; (with_reducible repeat (first | refine blk_drewN ?_ _ | refine blk_drew ?_ | refine blk_alloc ?_ _)); exact BK1359.out⟩
            have n4_ : Aside0 (((((w23.setCell ⟨gb1371, 0, none⟩ (.int .i64 t1361)).setCell ⟨gb1371, 1, none⟩ (.slice Ao27 t1362.length co27)).setCell ⟨gb1371, 2, none⟩ (.slice Ao28 t1365.length co28)).setCell ⟨gb1371, 3, none⟩ (.slice Ao29 t1368.length co29)).heap[gb1360]? = some (.cells #[.int .i64 0, .slice none 0 0, .slice none 0 0, .slice none 0 0] 26 (0, 0))) := ⟨by (with_reducible repeat (first | refine blk_drewN ?_ _ | refine blk_drew ?_ | refine blk_alloc ?_ _)); refine blk_far ?_ NB1360_1371.out _; (with_reducible repeat (first | refine blk_drewN ?_ _ | refine blk_drew ?_ | refine blk_alloc ?_ _)); refine blk_far ?_ NB1360_1371.out _; (with_reducible repeat (first | refine blk_drewN ?_ _ | refine blk_drew ?_ | refine blk_alloc ?_ _)); refine blk_far ?_ NB1360_1371.out _; (with_reducible repeat (first | refine blk_drewN ?_ _ | refine blk_drew ?_ | refine blk_alloc ?_ _)); refine blk_far ?_ NB1360_1371.out _; (with_reducible repeat (first | refine blk_drewN ?_ _ | refine blk_drew ?_ | refine blk_alloc ?_ _)); exact BK1360.out⟩
            have n5_ : Aside0 (((((w23.setCell ⟨gb1371, 0, none⟩ (.int .i64 t1361)).setCell ⟨gb1371, 1, none⟩ (.slice Ao27 t1362.length co27)).setCell ⟨gb1371, 2, none⟩ (.slice Ao28 t1365.length co28)).setCell ⟨gb1371, 3, none⟩ (.slice Ao29 t1368.length co29)).heap[gb1371]? = some (.cells #[.int .i64 t1361, .slice Ao27 t1362.length co27, .slice Ao28 t1365.length co28, .slice Ao29 t1368.length co29] 26 (0, 0))) := ⟨by (with_reducible repeat (first | refine blk_drewN ?_ _ | refine blk_drew ?_ | refine blk_alloc ?_ _)); refine blk_put (cs := #[.int .i64 t1361, .slice Ao27 t1362.length co27, .slice Ao28 t1365.length co28, .slice none 0 0]) ?_ 3 _ rfl; (with_reducible repeat (first | refine blk_drewN ?_ _ | refine blk_drew ?_ | refine blk_alloc ?_ _)); refine blk_put (cs := #[.int .i64 t1361, .slice Ao27 t1362.length co27, .slice none 0 0, .slice none 0 0]) ?_ 2 _ rfl; (with_reducible repeat (first | refine blk_drewN ?_ _ | refine blk_drew ?_ | refine blk_alloc ?_ _)); refine blk_put (cs := #[.int .i64 t1361, .slice none 0 0, .slice none 0 0, .slice none 0 0]) ?_ 1 _ rfl; (with_reducible repeat (first | refine blk_drewN ?_ _ | refine blk_drew ?_ | refine blk_alloc ?_ _)); refine blk_put (cs := #[.int .i64 0, .slice none 0 0, .slice none 0 0, .slice none 0 0]) ?_ 0 _ rfl; (with_reducible repeat (first | refine blk_drewN ?_ _ | refine blk_drew ?_ | refine blk_alloc ?_ _)); exact BK1371.out⟩
            have n6_ : Aside0 (Below w.heap.size w ((((w23.setCell ⟨gb1371, 0, none⟩ (.int .i64 t1361)).setCell ⟨gb1371, 1, none⟩ (.slice Ao27 t1362.length co27)).setCell ⟨gb1371, 2, none⟩ (.slice Ao28 t1365.length co28)).setCell ⟨gb1371, 3, none⟩ (.slice Ao29 t1368.length co29))) := ⟨hb_ HB.out⟩
            (try clear HO1364)
            (try clear HO1367)
            (try clear HO1370)
            (try clear BK1359)
            (try clear BK1360)
            (try clear BK1371)
            (try clear HB)
            generalize ((((w23.setCell ⟨gb1371, 0, none⟩ (.int .i64 t1361)).setCell ⟨gb1371, 1, none⟩ (.slice Ao27 t1362.length co27)).setCell ⟨gb1371, 2, none⟩ (.slice Ao28 t1365.length co28)).setCell ⟨gb1371, 3, none⟩ (.slice Ao29 t1368.length co29)) = w30 at n0_ n1_ n2_ n3_ n4_ n5_ n6_ ⊢
            have HO1364 := n0_
            have HO1367 := n1_
            have HO1370 := n2_
            have BK1359 := n3_
            have BK1360 := n4_
            have BK1371 := n5_
            have HB := n6_
            clear n0_ n1_ n2_ n3_ n4_ n5_ n6_
            have n0_ := Aside0.mk (Kd.R_drew HO1364.out)
            have n1_ := Aside0.mk (Kd.R_drew HO1367.out)
            have n2_ := Aside0.mk (Kd.R_drew HO1370.out)
            have n3_ := Aside0.mk (blk_drew BK1359.out)
            have n4_ := Aside0.mk (blk_drew BK1360.out)
            have n5_ := Aside0.mk (blk_drew BK1371.out)
            have n6_ := Aside0.mk (below_drew1 HB.out)
            clear HO1364; clear HO1367
            clear HO1370; clear BK1359
            clear BK1360; clear BK1371
            clear HB
            have HO1364 := n0_
            have HO1367 := n1_
            have HO1370 := n2_
            have BK1359 := n3_
            have BK1360 := n4_
            have BK1371 := n5_
            have HB := n6_
            clear n0_ n1_ n2_ n3_ n4_ n5_ n6_
            obtain ⟨i032, hi032, _, hsz32, _⟩ := info_parts info3
            obtain ⟨hcut32, hA32, hC32⟩ := print_take_of (P := Try.prog) (Value.int .i64) 0 24 3 .i64 Try.underlying24 hi032 hsz32 A0_1 c0_1 l0_1 a1 (of_decide_eq_true (by first | (with_reducible assumption) | assumption)) (of_decide_eq_true (by first | (with_reducible assumption) | assumption)) HC0_1.out
            have HR1375 := Aside0.mk (Kd.C_of_reads (h1 := fun _ => rfl) (hA32 _ (Kd.reads_of_C HR0_1.out)))
            have HC1375 := Aside0.mk hC32
            clear hA32 hC32 hi032 hsz32
            obtain ⟨i033, hi033, _, hsz33, _⟩ := info_parts info3
            obtain ⟨A33, hcut33, hA33, hC33⟩ := print_drop_of (P := Try.prog) (Value.int .i64) 0 24 3 .i64 Try.underlying24 hi033 hsz33 A0_1 c0_1 l0_1 (ji7) (of_decide_eq_true (by first | (with_reducible assumption) | assumption)) (of_decide_eq_true (by first | (with_reducible assumption) | assumption)) HC0_1.out
            have HR1379 := Aside0.mk (Kd.C_of_reads (h1 := fun _ => rfl) (hA33 _ (Kd.reads_of_C HR0_1.out)))
            have HC1379 := Aside0.mk hC33
            clear hA33 hC33 hi033 hsz33
            refine start_ (n := 14) (S := fun w' => w'.cell? ⟨gb1359, 0, none⟩ = some (.int .i64 a0_0) ∧ w'.cell? ⟨gb1359, 1, none⟩ = some (.slice A0_1 l0_1.length c0_1) ∧ w'.cell? ⟨gb1359, 2, none⟩ = some (.slice A0_2 l0_2.length c0_2) ∧ w'.cell? ⟨gb1359, 3, none⟩ = some (.slice A0_3 l0_3.length c0_3)) (ds := []) spec_l5Without.m0 (by kernel_rfl) rfl rfl ⟨(blk_cell BK1359.out 0).trans rfl, (blk_cell BK1359.out 1).trans rfl, (blk_cell BK1359.out 2).trans rfl, (blk_cell BK1359.out 3).trans rfl⟩ (fun hHeld => ?_); refine with_tabW spec_l5Without.tab2 spec_l5Without.bits2 (fun HT_ HW_ => ?_)
            generalize w30.drew = w31 at HO1364 HO1367 HO1370 BK1359 BK1360 BK1371 HB HR1375 HR1379 hHeld ⊢
            refine pI_ 1 9 HT_ spec_l5Without.m1 rfl rfl ?_
            refine pI_ 3 11 HT_ spec_l5Without.m2 rfl rfl ?_
            refine pI_ 6 14 HT_ spec_l5Without.m3 rfl rfl ?_
            refine pI_ 8 16 HT_ spec_l5Without.m4 rfl rfl ?_
            refine pI_ 9 17 HT_ spec_l5Without.m5 rfl rfl ?_
            refine take_ (i := 2) (N := some 10) (v := ?_) (a' := ?_) spec_l5Without.m6 rfl rfl (take_ofW HT_.out HW_.out (by kernel_rfl)) (fun _ _ _ h => h) (Or.inl ⟨by rfl, ?_⟩) hHeld ?_ ?_
            rotate_left
            ·
             rintro w' ⟨s0, s1, s2, s3⟩
             go_simp
             with_reducible rfl
            rotate_left; (focus simp only [Act.put, List.setIfInBounds_toArray, List.set_cons_zero, List.set_cons_succ, i64_w, i32_w]; rfl)
            refine pI_ 4 12 HT_ spec_l5Without.m7 rfl rfl ?_
            refine take_ (i := 7) (N := some 15) (v := ?_) (a' := ?_) spec_l5Without.m8 rfl rfl (take_ofW HT_.out HW_.out (by kernel_rfl)) (fun _ _ _ h => h) (Or.inl ⟨by rfl, ?_⟩) hHeld ?_ ?_
            rotate_left
            ·
             rintro w' ⟨s0, s1, s2, s3⟩
             go_simp
             with_reducible rfl
            rotate_left; (focus simp only [Act.put, List.setIfInBounds_toArray, List.set_cons_zero, List.set_cons_succ, i64_w, i32_w]; rfl)
            refine pI_ 10 18 HT_ spec_l5Without.m9 rfl rfl ?_
            refine one_ (i := 0) (N := some 8) spec_l5Without.m10 rfl rfl (one_of HT_.out (by kernel_rfl)) (by decide) (fun K hK => ?_)
            refine Kd.R_lit_step (Kd.int .i64) _ 3 ?hg (N := 8) ?hd (xs := ([] : List Int)) (inner := []) (ok := fun _ => True) (okp := fun _ => True) ?hr ?hp (fun _ hk => hk) trivial (Below.refl _ _) (Nat.le_refl _) (by simp) ?_; (case hd => rfl); (case hg => rfl); (case hr => first | (go_simp; done) | (go_simp; rfl)); (case hp => exact (Reps.none _ _))
            intro v1373 w34 ho35 hb hg_ hnew_
            clear hg_ hnew_
            (first | rw [← Ny1372.out] at ho35 | (simp only [Int.reduceToNat] at ho35; rw [← Ny1372.out] at ho35))
            have n0_ := Aside0.mk (Kd.R_elder' (rq_ HO1364.out) (Kd.R_base ho35) hb)
            have n1_ := Aside0.mk (Kd.R_elder' (rq_ HO1367.out) (Kd.R_base ho35) hb)
            have n2_ := Aside0.mk (Kd.R_elder' (rq_ HO1370.out) (Kd.R_base ho35) hb)
            have n3_ := Aside0.mk (Kd.R_lower (Kd.R_new' (Kd.R_new' (Kd.R_new' ho35 (Kd.R_lt (rq_ HO1364.out))) (Kd.R_lt (rq_ HO1367.out))) (Kd.R_lt (rq_ HO1370.out))) (below_size (hb_ HB.out)))
            have n4_ := Aside0.mk (bb_ BK1359.out hb)
            have n5_ := Aside0.mk (bb_ BK1360.out hb)
            have n6_ := Aside0.mk (bb_ BK1371.out hb)
            have n7_ := Aside0.mk (below_step (hb_ HB.out) hb)
            clear HO1364; clear HO1367
            clear HO1370; clear BK1359
            clear BK1360; clear BK1371
            clear HB
            have HO1364 := n0_
            have HO1367 := n1_
            have HO1370 := n2_
            have HO1374 := n3_
            have BK1359 := n4_
            have BK1360 := n5_
            have BK1371 := n6_
            have HB := n7_
            clear n0_ n1_ n2_ n3_ n4_ n5_ n6_ n7_; clear hb ho35
            refine hK.out _ _ ⟨(blk_cell BK1359.out 0).trans rfl, (blk_cell BK1359.out 1).trans rfl, (blk_cell BK1359.out 2).trans rfl, (blk_cell BK1359.out 3).trans rfl⟩ (fun hHeld => ?_)
            clear hK K
            refine norm_ (a' := ?_) ?_ ?_
            rotate_left
            ·
             show Act.put _ (some 8) _ = _
             simp only [Act.put, List.setIfInBounds_toArray, List.set_cons_zero, List.set_cons_succ, i64_w, i32_w]
             rfl
            refine one_ (i := 5) (N := some 13) spec_l5Without.m11 rfl rfl (one_of HT_.out (by kernel_rfl)) (by decide) (fun K hK => ?_)
            refine Kd.R_append_rows_step (Kd.int .i64) (w0 := w) w.heap.size (by rfl) (.tmp 8) (.tmp 12) 24 3 (.int .i64 0) 8 rfl Try.underlying24 info3 rfl (by decide) (by omega) v1373 y1372 (l0_1.take (a1 : Int).toNat) _ _ _ (fun k_ => some k_ ≠ (.slice Ao27 t1362.length co27 : Value).ownBlock ∧ some k_ ≠ (.slice Ao28 t1365.length co28 : Value).ownBlock ∧ some k_ ≠ (.slice Ao29 t1368.length co29 : Value).ownBlock) (fun _ => False) rfl rfl ?aO ?aR (fun _ _ h => h) (fun _ h => h.elim) ?aF ?aB ?aS ?aL ?_
            (case aR => first | (rw [← show (l0_1.take (a1 : Int).toNat).length = a1.toNat from (by rw [List.length_take]; have h_ : (a1 : Int) ≤ (l0_1.length : Int) := of_decide_eq_true (by first | (with_reducible assumption) | assumption); omega)]; (repeat (first | exact (Kd.C_below HR1375.out HB.out) | (with_reducible refine Kd.C_alloc ?_ _) | (with_reducible refine Kd.C_drewN ?_ _) | (with_reducible refine Kd.C_drew ?_))); done) | (refine cast (congrArg (fun n_ => ReadsRow _ _ _ _ n_ _) (show (l0_1.take (a1 : Int).toNat).length = a1.toNat from (by rw [List.length_take]; have h_ : (a1 : Int) ≤ (l0_1.length : Int) := of_decide_eq_true (by first | (with_reducible assumption) | assumption); omega))) ?_; (repeat (first | exact (Kd.C_below HR1375.out HB.out) | (with_reducible refine Kd.C_alloc ?_ _) | (with_reducible refine Kd.C_drewN ?_ _) | (with_reducible refine Kd.C_drew ?_))); done) | (repeat (first | exact (Kd.C_below HR1375.out HB.out) | (with_reducible refine Kd.C_alloc ?_ _) | (with_reducible refine Kd.C_drewN ?_ _) | (with_reducible refine Kd.C_drew ?_))))
            (case aB => exact (hb_ HB.out))
            (case aF => exact (fun k_ hk => ⟨Kd.fresh' (Kd.R_lt (rq_ HO1364.out)) k_ hk, Kd.fresh' (Kd.R_lt (rq_ HO1367.out)) k_ hk, Kd.fresh' (Kd.R_lt (rq_ HO1370.out)) k_ hk⟩))
            (case aO => exact (rm_ HO1374.out))
            (case aS => exact (below_size (hb_ HB.out)))
            (case aL => have := LMc6.out; have hlx_ := (show (l0_1.take (a1 : Int).toNat).length = a1.toNat from (by rw [List.length_take]; have h_ : (a1 : Int) ≤ (l0_1.length : Int) := of_decide_eq_true (by first | (with_reducible assumption) | assumption); omega)); omega)
            intro v1377 w36 ho hb hg hat
            rw [← Ny1376.out] at ho
            have n0_ := Aside0.mk (blk_grown (g := gb1359) (o := .cells #[.int .i64 a0_0, .slice A0_1 l0_1.length c0_1, .slice A0_2 l0_2.length c0_2, .slice A0_3 l0_3.length c0_3] 26 (0, 0)) (bq_ BK1359.out) hg (Kd.R_ne HO1374.out BK1359.out (by decide)))
            have n1_ := Aside0.mk (blk_grown (g := gb1360) (o := .cells #[.int .i64 0, .slice none 0 0, .slice none 0 0, .slice none 0 0] 26 (0, 0)) (bq_ BK1360.out) hg (Kd.R_ne HO1374.out BK1360.out (by decide)))
            have n2_ := Aside0.mk (Kd.R_after (ok := (fun k_ => some k_ ≠ (.slice Ao28 t1365.length co28 : Value).ownBlock ∧ some k_ ≠ (.slice Ao29 t1368.length co29 : Value).ownBlock)) (rq_ HO1364.out) hg hat)
            have n3_ := Aside0.mk (Kd.R_after (ok := (fun k_ => some k_ ≠ (.slice Ao27 t1362.length co27 : Value).ownBlock ∧ some k_ ≠ (.slice Ao29 t1368.length co29 : Value).ownBlock)) (rq_ HO1367.out) hg hat)
            have n4_ := Aside0.mk (Kd.R_after (ok := (fun k_ => some k_ ≠ (.slice Ao27 t1362.length co27 : Value).ownBlock ∧ some k_ ≠ (.slice Ao28 t1365.length co28 : Value).ownBlock)) (rq_ HO1370.out) hg hat)
            have n5_ := Aside0.mk (blk_grown (g := gb1371) (o := .cells #[.int .i64 t1361, .slice Ao27 t1362.length co27, .slice Ao28 t1365.length co28, .slice Ao29 t1368.length co29] 26 (0, 0)) (bq_ BK1371.out) hg (Kd.R_ne HO1374.out BK1371.out (by decide)))
            have n6_ := Aside0.mk (hb)
            have n7_ := Aside0.mk (ho)
            clear BK1359; clear BK1360
            clear HO1364; clear HO1367
            clear HO1370; clear BK1371
            clear HB; clear HO1374
            have BK1359 := n0_
            have BK1360 := n1_
            have HO1364 := n2_
            have HO1367 := n3_
            have HO1370 := n4_
            have BK1371 := n5_
            have HB := n6_
            have HO1378 := n7_
            clear n0_ n1_ n2_ n3_ n4_ n5_ n6_ n7_; clear ho hb hg hat
            refine hK.out _ _ ⟨(blk_cell BK1359.out 0).trans rfl, (blk_cell BK1359.out 1).trans rfl, (blk_cell BK1359.out 2).trans rfl, (blk_cell BK1359.out 3).trans rfl⟩ (fun hHeld => ?_)
            clear hK K
            refine norm_ (a' := ?_) ?_ ?_
            rotate_left
            ·
             show Act.put _ (some 13) _ = _
             simp only [Act.put, List.setIfInBounds_toArray, List.set_cons_zero, List.set_cons_succ, i64_w, i32_w]
             rfl
            refine one_ (i := 11) (N := some 19) spec_l5Without.m12 rfl rfl (one_of HT_.out (by kernel_rfl)) (by decide) (fun K hK => ?_)
            refine Kd.R_append_rows_step (Kd.int .i64) (w0 := w) w.heap.size (by rfl) (.tmp 13) (.tmp 18) 24 3 (.int .i64 0) 8 rfl Try.underlying24 info3 rfl (by decide) (by omega) v1377 y1376 (l0_1.drop ((ji7) : Int).toNat) _ _ _ (fun k_ => some k_ ≠ (.slice Ao27 t1362.length co27 : Value).ownBlock ∧ some k_ ≠ (.slice Ao28 t1365.length co28 : Value).ownBlock ∧ some k_ ≠ (.slice Ao29 t1368.length co29 : Value).ownBlock) (fun _ => False) rfl rfl ?aO ?aR (fun _ _ h => h) (fun _ h => h.elim) ?aF ?aB ?aS ?aL ?_
            (case aR => first | (rw [← show (l0_1.drop ((ji7) : Int).toNat).length = (l0_1.length - (ji7).toNat) from List.length_drop]; (repeat (first | exact (Kd.C_below HR1379.out HB.out) | (with_reducible refine Kd.C_alloc ?_ _) | (with_reducible refine Kd.C_drewN ?_ _) | (with_reducible refine Kd.C_drew ?_))); done) | (refine cast (congrArg (fun n_ => ReadsRow _ _ _ _ n_ _) (show (l0_1.drop ((ji7) : Int).toNat).length = (l0_1.length - (ji7).toNat) from List.length_drop)) ?_; (repeat (first | exact (Kd.C_below HR1379.out HB.out) | (with_reducible refine Kd.C_alloc ?_ _) | (with_reducible refine Kd.C_drewN ?_ _) | (with_reducible refine Kd.C_drew ?_))); done) | (repeat (first | exact (Kd.C_below HR1379.out HB.out) | (with_reducible refine Kd.C_alloc ?_ _) | (with_reducible refine Kd.C_drewN ?_ _) | (with_reducible refine Kd.C_drew ?_))))
            (case aB => exact (hb_ HB.out))
            (case aF => exact (fun k_ hk => ⟨Kd.fresh' (Kd.R_lt (rq_ HO1364.out)) k_ hk, Kd.fresh' (Kd.R_lt (rq_ HO1367.out)) k_ hk, Kd.fresh' (Kd.R_lt (rq_ HO1370.out)) k_ hk⟩))
            (case aO => exact (rq_ HO1378.out))
            (case aS => exact (below_size (hb_ HB.out)))
            (case aL => have := LMc10.out; have hlx_ := (show (l0_1.drop ((ji7) : Int).toNat).length = (l0_1.length - (ji7).toNat) from List.length_drop); omega)
            intro v1381 w37 ho hb hg hat
            rw [← Ny1380.out] at ho
            have n0_ := Aside0.mk (blk_grown (g := gb1359) (o := .cells #[.int .i64 a0_0, .slice A0_1 l0_1.length c0_1, .slice A0_2 l0_2.length c0_2, .slice A0_3 l0_3.length c0_3] 26 (0, 0)) (bq_ BK1359.out) hg (Kd.R_ne HO1378.out BK1359.out (by decide)))
            have n1_ := Aside0.mk (blk_grown (g := gb1360) (o := .cells #[.int .i64 0, .slice none 0 0, .slice none 0 0, .slice none 0 0] 26 (0, 0)) (bq_ BK1360.out) hg (Kd.R_ne HO1378.out BK1360.out (by decide)))
            have n2_ := Aside0.mk (Kd.R_after (ok := (fun k_ => some k_ ≠ (.slice Ao28 t1365.length co28 : Value).ownBlock ∧ some k_ ≠ (.slice Ao29 t1368.length co29 : Value).ownBlock)) (rq_ HO1364.out) hg hat)
            have n3_ := Aside0.mk (Kd.R_after (ok := (fun k_ => some k_ ≠ (.slice Ao27 t1362.length co27 : Value).ownBlock ∧ some k_ ≠ (.slice Ao29 t1368.length co29 : Value).ownBlock)) (rq_ HO1367.out) hg hat)
            have n4_ := Aside0.mk (Kd.R_after (ok := (fun k_ => some k_ ≠ (.slice Ao27 t1362.length co27 : Value).ownBlock ∧ some k_ ≠ (.slice Ao28 t1365.length co28 : Value).ownBlock)) (rq_ HO1370.out) hg hat)
            have n5_ := Aside0.mk (blk_grown (g := gb1371) (o := .cells #[.int .i64 t1361, .slice Ao27 t1362.length co27, .slice Ao28 t1365.length co28, .slice Ao29 t1368.length co29] 26 (0, 0)) (bq_ BK1371.out) hg (Kd.R_ne HO1378.out BK1371.out (by decide)))
            have n6_ := Aside0.mk (hb)
            have n7_ := Aside0.mk (ho)
            clear BK1359; clear BK1360
            clear HO1364; clear HO1367
            clear HO1370; clear BK1371
            clear HB; clear HO1378
            have BK1359 := n0_
            have BK1360 := n1_
            have HO1364 := n2_
            have HO1367 := n3_
            have HO1370 := n4_
            have BK1371 := n5_
            have HB := n6_
            have HO1382 := n7_
            clear n0_ n1_ n2_ n3_ n4_ n5_ n6_ n7_; clear ho hb hg hat
            obtain ⟨Ao38, co38, eo38⟩ := Kd.R_slice HO1382.out
            (first | subst eo38 | (injection eo38 with f1_ f2_ f3_; have f4_ := f1_.symm; have f5_ := f3_.symm; clear f1_ f2_ f3_; subst f4_; subst f5_))
            refine hK.out _ _ ⟨(blk_cell BK1359.out 0).trans rfl, (blk_cell BK1359.out 1).trans rfl, (blk_cell BK1359.out 2).trans rfl, (blk_cell BK1359.out 3).trans rfl⟩ (fun hHeld => ?_)
            clear hK K
            refine norm_ (a' := ?_) ?_ ?_
            rotate_left
            ·
             show Act.put _ (some 19) _ = _
             simp only [Act.put, List.setIfInBounds_toArray, List.set_cons_zero, List.set_cons_succ, i64_w, i32_w]
             rfl
            refine pI_ 12 20 HT_ spec_l5Without.m13 rfl rfl ?_
            refine one_ (i := 13) (N := none) spec_l5Without.m14 rfl rfl (one_of HT_.out (by kernel_rfl)) (by decide) (fun K hK => ?_)
            have hs39 : w37.cell? ⟨gb1371, 1, none⟩ = some (.slice Ao27 t1362.length co27) := (blk_cell BK1371.out 1).trans rfl
            have hfs39 := blk_frozen BK1371.out 1
            have hns39_0 := NB1359_1371.out
            have hns39_1 := NB1360_1371.out
            have hms39_0 := NB1371_1359.out
            have hms39_1 := NB1371_1360.out
            refine skip_ (w1 := ?_) (by rfl) rfl ?_ ?_
            rotate_left; (focus go_simp; rfl)
            refine hK.out _ _ ⟨((cell_far (p := ⟨gb1371, _, none⟩) NB1359_1371.out _).trans (hHeld.1)), ((cell_far (p := ⟨gb1371, _, none⟩) NB1359_1371.out _).trans (hHeld.2.1)), ((cell_far (p := ⟨gb1371, _, none⟩) NB1359_1371.out _).trans (hHeld.2.2.1)), ((cell_far (p := ⟨gb1371, _, none⟩) NB1359_1371.out _).trans (hHeld.2.2.2))⟩ (fun hHeld => ?_)
            clear hK K
            refine done_ (done_of HT_.out (by kernel_rfl)) ?_
            have hcz40_0 : w37.cell? ⟨gb1359, 0, none⟩ = some (.int .i64 a0_0) := (blk_cell BK1359.out 0).trans rfl
            have hcz40_1 : w37.cell? ⟨gb1359, 1, none⟩ = some (.slice A0_1 l0_1.length c0_1) := (blk_cell BK1359.out 1).trans rfl
            have hcz40_2 : w37.cell? ⟨gb1359, 2, none⟩ = some (.slice A0_2 l0_2.length c0_2) := (blk_cell BK1359.out 2).trans rfl
            have hcz40_3 : w37.cell? ⟨gb1359, 3, none⟩ = some (.slice A0_3 l0_3.length c0_3) := (blk_cell BK1359.out 3).trans rfl
            have hfz40_0 := blk_frozen BK1359.out 0
            have hfz40_1 := blk_frozen BK1359.out 1
            have hfz40_2 := blk_frozen BK1359.out 2
            have hfz40_3 := blk_frozen BK1359.out 3
            try go_wp2
            have n0_ : Aside0 (Kd.R (Kd.int .i64) 3 (w37.setCell ⟨gb1371, 1, none⟩ (.slice Ao38 y1380.length co38)) w.heap.size (fun k_ => some k_ ≠ (.slice Ao28 t1365.length co28 : Value).ownBlock ∧ some k_ ≠ (.slice Ao29 t1368.length co29 : Value).ownBlock ∧ some k_ ≠ (.slice Ao38 y1380.length co38 : Value).ownBlock) (.slice Ao27 t1362.length co27) t1362) := ⟨by (with_reducible repeat (first | apply Kd.R_alloc | apply Kd.R_drewN | apply Kd.R_drew)); exact Kd.R_mono (Kd.R_far (p := ⟨gb1371, 1, none⟩) (Kd.R_types HO1364.out BK1371.out (by decide)) (fun _ hk => hk.2) (.slice Ao38 y1380.length co38)) (fun _ hk => ⟨hk.1.1.1, ⟨hk.1.1.2, hk.1.2⟩⟩)⟩
            have n1_ : Aside0 (Kd.R (Kd.int .i64) 3 (w37.setCell ⟨gb1371, 1, none⟩ (.slice Ao38 y1380.length co38)) w.heap.size (fun k_ => some k_ ≠ (.slice Ao27 t1362.length co27 : Value).ownBlock ∧ some k_ ≠ (.slice Ao29 t1368.length co29 : Value).ownBlock ∧ some k_ ≠ (.slice Ao38 y1380.length co38 : Value).ownBlock) (.slice Ao28 t1365.length co28) t1365) := ⟨by (with_reducible repeat (first | apply Kd.R_alloc | apply Kd.R_drewN | apply Kd.R_drew)); exact Kd.R_mono (Kd.R_far (p := ⟨gb1371, 1, none⟩) (Kd.R_types HO1367.out BK1371.out (by decide)) (fun _ hk => hk.2) (.slice Ao38 y1380.length co38)) (fun _ hk => ⟨hk.1.1.1, ⟨hk.1.1.2, hk.1.2⟩⟩)⟩
            have n2_ : Aside0 (Kd.R (Kd.int .i64) 3 (w37.setCell ⟨gb1371, 1, none⟩ (.slice Ao38 y1380.length co38)) w.heap.size (fun k_ => some k_ ≠ (.slice Ao27 t1362.length co27 : Value).ownBlock ∧ some k_ ≠ (.slice Ao28 t1365.length co28 : Value).ownBlock ∧ some k_ ≠ (.slice Ao38 y1380.length co38 : Value).ownBlock) (.slice Ao29 t1368.length co29) t1368) := ⟨by (with_reducible repeat (first | apply Kd.R_alloc | apply Kd.R_drewN | apply Kd.R_drew)); exact Kd.R_mono (Kd.R_far (p := ⟨gb1371, 1, none⟩) (Kd.R_types HO1370.out BK1371.out (by decide)) (fun _ hk => hk.2) (.slice Ao38 y1380.length co38)) (fun _ hk => ⟨hk.1.1.1, ⟨hk.1.1.2, hk.1.2⟩⟩)⟩
            have n3_ : Aside0 (Kd.R (Kd.int .i64) 3 (w37.setCell ⟨gb1371, 1, none⟩ (.slice Ao38 y1380.length co38)) w.heap.size (fun k_ => some k_ ≠ (.slice Ao27 t1362.length co27 : Value).ownBlock ∧ some k_ ≠ (.slice Ao28 t1365.length co28 : Value).ownBlock ∧ some k_ ≠ (.slice Ao29 t1368.length co29 : Value).ownBlock) (.slice Ao38 y1380.length co38) y1380) := ⟨by (with_reducible repeat (first | apply Kd.R_alloc | apply Kd.R_drewN | apply Kd.R_drew)); exact Kd.R_mono (Kd.R_far (p := ⟨gb1371, 1, none⟩) (Kd.R_types HO1382.out BK1371.out (by decide)) (fun _ hk => hk.2) (.slice Ao38 y1380.length co38)) (fun _ hk => ⟨hk.1.1, ⟨hk.1.2.1, hk.1.2.2⟩⟩)⟩
            have n4_ : Aside0 ((w37.setCell ⟨gb1371, 1, none⟩ (.slice Ao38 y1380.length co38)).heap[gb1359]? = some (.cells #[.int .i64 a0_0, .slice A0_1 l0_1.length c0_1, .slice A0_2 l0_2.length c0_2, .slice A0_3 l0_3.length c0_3] 26 (0, 0))) := ⟨by (with_reducible repeat (first | refine blk_drewN ?_ _ | refine blk_drew ?_ | refine blk_alloc ?_ _)); refine blk_far ?_ NB1359_1371.out _; (with_reducible repeat (first | refine blk_drewN ?_ _ | refine blk_drew ?_ | refine blk_alloc ?_ _)); exact BK1359.out⟩
            have n5_ : Aside0 ((w37.setCell ⟨gb1371, 1, none⟩ (.slice Ao38 y1380.length co38)).heap[gb1360]? = some (.cells #[.int .i64 0, .slice none 0 0, .slice none 0 0, .slice none 0 0] 26 (0, 0))) := ⟨by (with_reducible repeat (first | refine blk_drewN ?_ _ | refine blk_drew ?_ | refine blk_alloc ?_ _)); refine blk_far ?_ NB1360_1371.out _; (with_reducible repeat (first | refine blk_drewN ?_ _ | refine blk_drew ?_ | refine blk_alloc ?_ _)); exact BK1360.out⟩
            have n6_ : Aside0 ((w37.setCell ⟨gb1371, 1, none⟩ (.slice Ao38 y1380.length co38)).heap[gb1371]? = some (.cells #[.int .i64 t1361, .slice Ao38 y1380.length co38, .slice Ao28 t1365.length co28, .slice Ao29 t1368.length co29] 26 (0, 0))) := ⟨by (with_reducible repeat (first | refine blk_drewN ?_ _ | refine blk_drew ?_ | refine blk_alloc ?_ _)); refine blk_put (cs := #[.int .i64 t1361, .slice Ao27 t1362.length co27, .slice Ao28 t1365.length co28, .slice Ao29 t1368.length co29]) ?_ 1 _ rfl; (with_reducible repeat (first | refine blk_drewN ?_ _ | refine blk_drew ?_ | refine blk_alloc ?_ _)); exact BK1371.out⟩
            have n7_ : Aside0 (Below w.heap.size w (w37.setCell ⟨gb1371, 1, none⟩ (.slice Ao38 y1380.length co38))) := ⟨hb_ HB.out⟩
            (try clear HO1364)
            (try clear HO1367)
            (try clear HO1370)
            (try clear HO1382)
            (try clear BK1359)
            (try clear BK1360)
            (try clear BK1371)
            (try clear HB)
            generalize (w37.setCell ⟨gb1371, 1, none⟩ (.slice Ao38 y1380.length co38)) = w41 at n0_ n1_ n2_ n3_ n4_ n5_ n6_ n7_ ⊢
            have HO1364 := n0_
            have HO1367 := n1_
            have HO1370 := n2_
            have HO1382 := n3_
            have BK1359 := n4_
            have BK1360 := n5_
            have BK1371 := n6_
            have HB := n7_
            clear n0_ n1_ n2_ n3_ n4_ n5_ n6_ n7_
            have n0_ := Aside0.mk (Kd.R_drew HO1364.out)
            have n1_ := Aside0.mk (Kd.R_drew HO1367.out)
            have n2_ := Aside0.mk (Kd.R_drew HO1370.out)
            have n3_ := Aside0.mk (Kd.R_drew HO1382.out)
            have n4_ := Aside0.mk (blk_drew BK1359.out)
            have n5_ := Aside0.mk (blk_drew BK1360.out)
            have n6_ := Aside0.mk (blk_drew BK1371.out)
            have n7_ := Aside0.mk (below_drew1 HB.out)
            clear HO1364; clear HO1367
            clear HO1370; clear HO1382
            clear BK1359; clear BK1360
            clear BK1371; clear HB
            have HO1364 := n0_
            have HO1367 := n1_
            have HO1370 := n2_
            have HO1382 := n3_
            have BK1359 := n4_
            have BK1360 := n5_
            have BK1371 := n6_
            have HB := n7_
            clear n0_ n1_ n2_ n3_ n4_ n5_ n6_ n7_
            obtain ⟨i043, hi043, _, hsz43, _⟩ := info_parts info3
            obtain ⟨hcut43, hA43, hC43⟩ := print_take_of (P := Try.prog) (Value.int .i64) 0 24 3 .i64 Try.underlying24 hi043 hsz43 A0_2 c0_2 l0_2 a1 (of_decide_eq_true (by first | (with_reducible assumption) | assumption)) (of_decide_eq_true (by first | (with_reducible assumption) | assumption)) HC0_2.out
            have HR1386 := Aside0.mk (Kd.C_of_reads (h1 := fun _ => rfl) (hA43 _ (Kd.reads_of_C HR0_2.out)))
            have HC1386 := Aside0.mk hC43
            clear hA43 hC43 hi043 hsz43
            obtain ⟨i044, hi044, _, hsz44, _⟩ := info_parts info3
            obtain ⟨A44, hcut44, hA44, hC44⟩ := print_drop_of (P := Try.prog) (Value.int .i64) 0 24 3 .i64 Try.underlying24 hi044 hsz44 A0_2 c0_2 l0_2 (ji7) (of_decide_eq_true (by first | (with_reducible assumption) | assumption)) (of_decide_eq_true (by first | (with_reducible assumption) | assumption)) HC0_2.out
            have HR1390 := Aside0.mk (Kd.C_of_reads (h1 := fun _ => rfl) (hA44 _ (Kd.reads_of_C HR0_2.out)))
            have HC1390 := Aside0.mk hC44
            clear hA44 hC44 hi044 hsz44
            refine start_ (n := 14) (S := fun w' => w'.cell? ⟨gb1359, 0, none⟩ = some (.int .i64 a0_0) ∧ w'.cell? ⟨gb1359, 1, none⟩ = some (.slice A0_1 l0_1.length c0_1) ∧ w'.cell? ⟨gb1359, 2, none⟩ = some (.slice A0_2 l0_2.length c0_2) ∧ w'.cell? ⟨gb1359, 3, none⟩ = some (.slice A0_3 l0_3.length c0_3)) (ds := []) spec_l5Without.m0 (by kernel_rfl) rfl rfl ⟨(blk_cell BK1359.out 0).trans rfl, (blk_cell BK1359.out 1).trans rfl, (blk_cell BK1359.out 2).trans rfl, (blk_cell BK1359.out 3).trans rfl⟩ (fun hHeld => ?_); refine with_tabW spec_l5Without.tab4 spec_l5Without.bits4 (fun HT_ HW_ => ?_)
            generalize w41.drew = w42 at HO1364 HO1367 HO1370 HO1382 BK1359 BK1360 BK1371 HB HR1386 HR1390 hHeld ⊢
            refine pI_ 1 27 HT_ spec_l5Without.m1 rfl rfl ?_
            refine pI_ 3 29 HT_ spec_l5Without.m2 rfl rfl ?_
            refine pI_ 6 32 HT_ spec_l5Without.m3 rfl rfl ?_
            refine pI_ 8 34 HT_ spec_l5Without.m4 rfl rfl ?_
            refine pI_ 9 35 HT_ spec_l5Without.m5 rfl rfl ?_
            refine take_ (i := 2) (N := some 28) (v := ?_) (a' := ?_) spec_l5Without.m6 rfl rfl (take_ofW HT_.out HW_.out (by kernel_rfl)) (fun _ _ _ h => h) (Or.inl ⟨by rfl, ?_⟩) hHeld ?_ ?_
            rotate_left
            ·
             rintro w' ⟨s0, s1, s2, s3⟩
             go_simp
             with_reducible rfl
            rotate_left; (focus simp only [Act.put, List.setIfInBounds_toArray, List.set_cons_zero, List.set_cons_succ, i64_w, i32_w]; rfl)
            refine pI_ 4 30 HT_ spec_l5Without.m7 rfl rfl ?_
            refine take_ (i := 7) (N := some 33) (v := ?_) (a' := ?_) spec_l5Without.m8 rfl rfl (take_ofW HT_.out HW_.out (by kernel_rfl)) (fun _ _ _ h => h) (Or.inl ⟨by rfl, ?_⟩) hHeld ?_ ?_
            rotate_left
            ·
             rintro w' ⟨s0, s1, s2, s3⟩
             go_simp
             with_reducible rfl
            rotate_left; (focus simp only [Act.put, List.setIfInBounds_toArray, List.set_cons_zero, List.set_cons_succ, i64_w, i32_w]; rfl)
            refine pI_ 10 36 HT_ spec_l5Without.m9 rfl rfl ?_
            refine one_ (i := 0) (N := some 26) spec_l5Without.m10 rfl rfl (one_of HT_.out (by kernel_rfl)) (by decide) (fun K hK => ?_)
            refine Kd.R_lit_step (Kd.int .i64) _ 3 ?hg (N := 26) ?hd (xs := ([] : List Int)) (inner := []) (ok := fun _ => True) (okp := fun _ => True) ?hr ?hp (fun _ hk => hk) trivial (Below.refl _ _) (Nat.le_refl _) (by simp) ?_; (case hd => rfl); (case hg => rfl); (case hr => first | (go_simp; done) | (go_simp; rfl)); (case hp => exact (Reps.none _ _))
            intro v1384 w45 ho46 hb hg_ hnew_
            clear hg_ hnew_
            (first | rw [← Ny1383.out] at ho46 | (simp only [Int.reduceToNat] at ho46; rw [← Ny1383.out] at ho46))
            have n0_ := Aside0.mk (Kd.R_elder' (rq_ HO1364.out) (Kd.R_base ho46) hb)
            have n1_ := Aside0.mk (Kd.R_elder' (rq_ HO1367.out) (Kd.R_base ho46) hb)
            have n2_ := Aside0.mk (Kd.R_elder' (rq_ HO1370.out) (Kd.R_base ho46) hb)
            have n3_ := Aside0.mk (Kd.R_elder' (rq_ HO1382.out) (Kd.R_base ho46) hb)
            have n4_ := Aside0.mk (Kd.R_lower (Kd.R_new' (Kd.R_new' (Kd.R_new' (Kd.R_new' ho46 (Kd.R_lt (rq_ HO1364.out))) (Kd.R_lt (rq_ HO1367.out))) (Kd.R_lt (rq_ HO1370.out))) (Kd.R_lt (rq_ HO1382.out))) (below_size (hb_ HB.out)))
            have n5_ := Aside0.mk (bb_ BK1359.out hb)
            have n6_ := Aside0.mk (bb_ BK1360.out hb)
            have n7_ := Aside0.mk (bb_ BK1371.out hb)
            have n8_ := Aside0.mk (below_step (hb_ HB.out) hb)
            clear HO1364; clear HO1367
            clear HO1370; clear HO1382
            clear BK1359; clear BK1360
            clear BK1371; clear HB
            have HO1364 := n0_
            have HO1367 := n1_
            have HO1370 := n2_
            have HO1382 := n3_
            have HO1385 := n4_
            have BK1359 := n5_
            have BK1360 := n6_
            have BK1371 := n7_
            have HB := n8_
            clear n0_ n1_ n2_ n3_ n4_ n5_ n6_ n7_ n8_; clear hb ho46
            refine hK.out _ _ ⟨(blk_cell BK1359.out 0).trans rfl, (blk_cell BK1359.out 1).trans rfl, (blk_cell BK1359.out 2).trans rfl, (blk_cell BK1359.out 3).trans rfl⟩ (fun hHeld => ?_)
            clear hK K
            refine norm_ (a' := ?_) ?_ ?_
            rotate_left
            ·
             show Act.put _ (some 26) _ = _
             simp only [Act.put, List.setIfInBounds_toArray, List.set_cons_zero, List.set_cons_succ, i64_w, i32_w]
             rfl
            refine one_ (i := 5) (N := some 31) spec_l5Without.m11 rfl rfl (one_of HT_.out (by kernel_rfl)) (by decide) (fun K hK => ?_)
            refine Kd.R_append_rows_step (Kd.int .i64) (w0 := w) w.heap.size (by rfl) (.tmp 26) (.tmp 30) 24 3 (.int .i64 0) 8 rfl Try.underlying24 info3 rfl (by decide) (by omega) v1384 y1383 (l0_2.take (a1 : Int).toNat) _ _ _ (fun k_ => some k_ ≠ (.slice Ao27 t1362.length co27 : Value).ownBlock ∧ some k_ ≠ (.slice Ao28 t1365.length co28 : Value).ownBlock ∧ some k_ ≠ (.slice Ao29 t1368.length co29 : Value).ownBlock ∧ some k_ ≠ (.slice Ao38 y1380.length co38 : Value).ownBlock) (fun _ => False) rfl rfl ?aO ?aR (fun _ _ h => h) (fun _ h => h.elim) ?aF ?aB ?aS ?aL ?_
            (case aR => first | (rw [← show (l0_2.take (a1 : Int).toNat).length = a1.toNat from (by rw [List.length_take]; have h_ : (a1 : Int) ≤ (l0_2.length : Int) := of_decide_eq_true (by first | (with_reducible assumption) | assumption); omega)]; (repeat (first | exact (Kd.C_below HR1386.out HB.out) | (with_reducible refine Kd.C_alloc ?_ _) | (with_reducible refine Kd.C_drewN ?_ _) | (with_reducible refine Kd.C_drew ?_))); done) | (refine cast (congrArg (fun n_ => ReadsRow _ _ _ _ n_ _) (show (l0_2.take (a1 : Int).toNat).length = a1.toNat from (by rw [List.length_take]; have h_ : (a1 : Int) ≤ (l0_2.length : Int) := of_decide_eq_true (by first | (with_reducible assumption) | assumption); omega))) ?_; (repeat (first | exact (Kd.C_below HR1386.out HB.out) | (with_reducible refine Kd.C_alloc ?_ _) | (with_reducible refine Kd.C_drewN ?_ _) | (with_reducible refine Kd.C_drew ?_))); done) | (repeat (first | exact (Kd.C_below HR1386.out HB.out) | (with_reducible refine Kd.C_alloc ?_ _) | (with_reducible refine Kd.C_drewN ?_ _) | (with_reducible refine Kd.C_drew ?_))))
            (case aB => exact (hb_ HB.out))
            (case aF => exact (fun k_ hk => ⟨Kd.fresh' (Kd.R_lt (rq_ HO1364.out)) k_ hk, Kd.fresh' (Kd.R_lt (rq_ HO1367.out)) k_ hk, Kd.fresh' (Kd.R_lt (rq_ HO1370.out)) k_ hk, Kd.fresh' (Kd.R_lt (rq_ HO1382.out)) k_ hk⟩))
            (case aO => exact (rm_ HO1385.out))
            (case aS => exact (below_size (hb_ HB.out)))
            (case aL => have := LMc14.out; have hlx_ := (show (l0_2.take (a1 : Int).toNat).length = a1.toNat from (by rw [List.length_take]; have h_ : (a1 : Int) ≤ (l0_2.length : Int) := of_decide_eq_true (by first | (with_reducible assumption) | assumption); omega)); omega)
            intro v1388 w47 ho hb hg hat
            rw [← Ny1387.out] at ho
            have n0_ := Aside0.mk (blk_grown (g := gb1359) (o := .cells #[.int .i64 a0_0, .slice A0_1 l0_1.length c0_1, .slice A0_2 l0_2.length c0_2, .slice A0_3 l0_3.length c0_3] 26 (0, 0)) (bq_ BK1359.out) hg (Kd.R_ne HO1385.out BK1359.out (by decide)))
            have n1_ := Aside0.mk (blk_grown (g := gb1360) (o := .cells #[.int .i64 0, .slice none 0 0, .slice none 0 0, .slice none 0 0] 26 (0, 0)) (bq_ BK1360.out) hg (Kd.R_ne HO1385.out BK1360.out (by decide)))
            have n2_ := Aside0.mk (Kd.R_after (ok := (fun k_ => some k_ ≠ (.slice Ao28 t1365.length co28 : Value).ownBlock ∧ some k_ ≠ (.slice Ao29 t1368.length co29 : Value).ownBlock ∧ some k_ ≠ (.slice Ao38 y1380.length co38 : Value).ownBlock)) (rq_ HO1364.out) hg hat)
            have n3_ := Aside0.mk (Kd.R_after (ok := (fun k_ => some k_ ≠ (.slice Ao27 t1362.length co27 : Value).ownBlock ∧ some k_ ≠ (.slice Ao29 t1368.length co29 : Value).ownBlock ∧ some k_ ≠ (.slice Ao38 y1380.length co38 : Value).ownBlock)) (rq_ HO1367.out) hg hat)
            have n4_ := Aside0.mk (Kd.R_after (ok := (fun k_ => some k_ ≠ (.slice Ao27 t1362.length co27 : Value).ownBlock ∧ some k_ ≠ (.slice Ao28 t1365.length co28 : Value).ownBlock ∧ some k_ ≠ (.slice Ao38 y1380.length co38 : Value).ownBlock)) (rq_ HO1370.out) hg hat)
            have n5_ := Aside0.mk (blk_grown (g := gb1371) (o := .cells #[.int .i64 t1361, .slice Ao38 y1380.length co38, .slice Ao28 t1365.length co28, .slice Ao29 t1368.length co29] 26 (0, 0)) (bq_ BK1371.out) hg (Kd.R_ne HO1385.out BK1371.out (by decide)))
            have n6_ := Aside0.mk (Kd.R_after (ok := (fun k_ => some k_ ≠ (.slice Ao27 t1362.length co27 : Value).ownBlock ∧ some k_ ≠ (.slice Ao28 t1365.length co28 : Value).ownBlock ∧ some k_ ≠ (.slice Ao29 t1368.length co29 : Value).ownBlock)) (rq_ HO1382.out) hg hat)
            have n7_ := Aside0.mk (hb)
            have n8_ := Aside0.mk (ho)
            clear BK1359; clear BK1360
            clear HO1364; clear HO1367
            clear HO1370; clear BK1371
            clear HO1382; clear HB
            clear HO1385
            have BK1359 := n0_
            have BK1360 := n1_
            have HO1364 := n2_
            have HO1367 := n3_
            have HO1370 := n4_
            have BK1371 := n5_
            have HO1382 := n6_
            have HB := n7_
            have HO1389 := n8_
            clear n0_ n1_ n2_ n3_ n4_ n5_ n6_ n7_ n8_; clear ho hb hg hat
            refine hK.out _ _ ⟨(blk_cell BK1359.out 0).trans rfl, (blk_cell BK1359.out 1).trans rfl, (blk_cell BK1359.out 2).trans rfl, (blk_cell BK1359.out 3).trans rfl⟩ (fun hHeld => ?_)
            clear hK K
            refine norm_ (a' := ?_) ?_ ?_
            rotate_left
            ·
             show Act.put _ (some 31) _ = _
             simp only [Act.put, List.setIfInBounds_toArray, List.set_cons_zero, List.set_cons_succ, i64_w, i32_w]
             rfl
            refine one_ (i := 11) (N := some 37) spec_l5Without.m12 rfl rfl (one_of HT_.out (by kernel_rfl)) (by decide) (fun K hK => ?_)
            refine Kd.R_append_rows_step (Kd.int .i64) (w0 := w) w.heap.size (by rfl) (.tmp 31) (.tmp 36) 24 3 (.int .i64 0) 8 rfl Try.underlying24 info3 rfl (by decide) (by omega) v1388 y1387 (l0_2.drop ((ji7) : Int).toNat) _ _ _ (fun k_ => some k_ ≠ (.slice Ao27 t1362.length co27 : Value).ownBlock ∧ some k_ ≠ (.slice Ao28 t1365.length co28 : Value).ownBlock ∧ some k_ ≠ (.slice Ao29 t1368.length co29 : Value).ownBlock ∧ some k_ ≠ (.slice Ao38 y1380.length co38 : Value).ownBlock) (fun _ => False) rfl rfl ?aO ?aR (fun _ _ h => h) (fun _ h => h.elim) ?aF ?aB ?aS ?aL ?_
            (case aR => first | (rw [← show (l0_2.drop ((ji7) : Int).toNat).length = (l0_2.length - (ji7).toNat) from List.length_drop]; (repeat (first | exact (Kd.C_below HR1390.out HB.out) | (with_reducible refine Kd.C_alloc ?_ _) | (with_reducible refine Kd.C_drewN ?_ _) | (with_reducible refine Kd.C_drew ?_))); done) | (refine cast (congrArg (fun n_ => ReadsRow _ _ _ _ n_ _) (show (l0_2.drop ((ji7) : Int).toNat).length = (l0_2.length - (ji7).toNat) from List.length_drop)) ?_; (repeat (first | exact (Kd.C_below HR1390.out HB.out) | (with_reducible refine Kd.C_alloc ?_ _) | (with_reducible refine Kd.C_drewN ?_ _) | (with_reducible refine Kd.C_drew ?_))); done) | (repeat (first | exact (Kd.C_below HR1390.out HB.out) | (with_reducible refine Kd.C_alloc ?_ _) | (with_reducible refine Kd.C_drewN ?_ _) | (with_reducible refine Kd.C_drew ?_))))
            (case aB => exact (hb_ HB.out))
            (case aF => exact (fun k_ hk => ⟨Kd.fresh' (Kd.R_lt (rq_ HO1364.out)) k_ hk, Kd.fresh' (Kd.R_lt (rq_ HO1367.out)) k_ hk, Kd.fresh' (Kd.R_lt (rq_ HO1370.out)) k_ hk, Kd.fresh' (Kd.R_lt (rq_ HO1382.out)) k_ hk⟩))
            (case aO => exact (rq_ HO1389.out))
            (case aS => exact (below_size (hb_ HB.out)))
            (case aL => have := LMc17.out; have hlx_ := (show (l0_2.drop ((ji7) : Int).toNat).length = (l0_2.length - (ji7).toNat) from List.length_drop); omega)
            intro v1392 w48 ho hb hg hat
            rw [← Ny1391.out] at ho
            have n0_ := Aside0.mk (blk_grown (g := gb1359) (o := .cells #[.int .i64 a0_0, .slice A0_1 l0_1.length c0_1, .slice A0_2 l0_2.length c0_2, .slice A0_3 l0_3.length c0_3] 26 (0, 0)) (bq_ BK1359.out) hg (Kd.R_ne HO1389.out BK1359.out (by decide)))
            have n1_ := Aside0.mk (blk_grown (g := gb1360) (o := .cells #[.int .i64 0, .slice none 0 0, .slice none 0 0, .slice none 0 0] 26 (0, 0)) (bq_ BK1360.out) hg (Kd.R_ne HO1389.out BK1360.out (by decide)))
            have n2_ := Aside0.mk (Kd.R_after (ok := (fun k_ => some k_ ≠ (.slice Ao28 t1365.length co28 : Value).ownBlock ∧ some k_ ≠ (.slice Ao29 t1368.length co29 : Value).ownBlock ∧ some k_ ≠ (.slice Ao38 y1380.length co38 : Value).ownBlock)) (rq_ HO1364.out) hg hat)
            have n3_ := Aside0.mk (Kd.R_after (ok := (fun k_ => some k_ ≠ (.slice Ao27 t1362.length co27 : Value).ownBlock ∧ some k_ ≠ (.slice Ao29 t1368.length co29 : Value).ownBlock ∧ some k_ ≠ (.slice Ao38 y1380.length co38 : Value).ownBlock)) (rq_ HO1367.out) hg hat)
            have n4_ := Aside0.mk (Kd.R_after (ok := (fun k_ => some k_ ≠ (.slice Ao27 t1362.length co27 : Value).ownBlock ∧ some k_ ≠ (.slice Ao28 t1365.length co28 : Value).ownBlock ∧ some k_ ≠ (.slice Ao38 y1380.length co38 : Value).ownBlock)) (rq_ HO1370.out) hg hat)
            have n5_ := Aside0.mk (blk_grown (g := gb1371) (o := .cells #[.int .i64 t1361, .slice Ao38 y1380.length co38, .slice Ao28 t1365.length co28, .slice Ao29 t1368.length co29] 26 (0, 0)) (bq_ BK1371.out) hg (Kd.R_ne HO1389.out BK1371.out (by decide)))
            have n6_ := Aside0.mk (Kd.R_after (ok := (fun k_ => some k_ ≠ (.slice Ao27 t1362.length co27 : Value).ownBlock ∧ some k_ ≠ (.slice Ao28 t1365.length co28 : Value).ownBlock ∧ some k_ ≠ (.slice Ao29 t1368.length co29 : Value).ownBlock)) (rq_ HO1382.out) hg hat)
            have n7_ := Aside0.mk (hb)
            have n8_ := Aside0.mk (ho)
            clear BK1359; clear BK1360
            clear HO1364; clear HO1367
            clear HO1370; clear BK1371
            clear HO1382; clear HB
            clear HO1389
            have BK1359 := n0_
            have BK1360 := n1_
            have HO1364 := n2_
            have HO1367 := n3_
            have HO1370 := n4_
            have BK1371 := n5_
            have HO1382 := n6_
            have HB := n7_
            have HO1393 := n8_
            clear n0_ n1_ n2_ n3_ n4_ n5_ n6_ n7_ n8_; clear ho hb hg hat
            obtain ⟨Ao49, co49, eo49⟩ := Kd.R_slice HO1393.out
            (first | subst eo49 | (injection eo49 with f1_ f2_ f3_; have f4_ := f1_.symm; have f5_ := f3_.symm; clear f1_ f2_ f3_; subst f4_; subst f5_))
            refine hK.out _ _ ⟨(blk_cell BK1359.out 0).trans rfl, (blk_cell BK1359.out 1).trans rfl, (blk_cell BK1359.out 2).trans rfl, (blk_cell BK1359.out 3).trans rfl⟩ (fun hHeld => ?_)
            clear hK K
            refine norm_ (a' := ?_) ?_ ?_
            rotate_left
            ·
             show Act.put _ (some 37) _ = _
             simp only [Act.put, List.setIfInBounds_toArray, List.set_cons_zero, List.set_cons_succ, i64_w, i32_w]
             rfl
            refine pI_ 12 38 HT_ spec_l5Without.m13 rfl rfl ?_
            refine one_ (i := 13) (N := none) spec_l5Without.m14 rfl rfl (one_of HT_.out (by kernel_rfl)) (by decide) (fun K hK => ?_)
            have hs50 : w48.cell? ⟨gb1371, 2, none⟩ = some (.slice Ao28 t1365.length co28) := (blk_cell BK1371.out 2).trans rfl
            have hfs50 := blk_frozen BK1371.out 2
            have hns50_0 := NB1359_1371.out
            have hns50_1 := NB1360_1371.out
            have hms50_0 := NB1371_1359.out
            have hms50_1 := NB1371_1360.out
            refine skip_ (w1 := ?_) (by rfl) rfl ?_ ?_
            rotate_left; (focus go_simp; rfl)
            refine hK.out _ _ ⟨((cell_far (p := ⟨gb1371, _, none⟩) NB1359_1371.out _).trans (hHeld.1)), ((cell_far (p := ⟨gb1371, _, none⟩) NB1359_1371.out _).trans (hHeld.2.1)), ((cell_far (p := ⟨gb1371, _, none⟩) NB1359_1371.out _).trans (hHeld.2.2.1)), ((cell_far (p := ⟨gb1371, _, none⟩) NB1359_1371.out _).trans (hHeld.2.2.2))⟩ (fun hHeld => ?_)
            clear hK K
            refine done_ (done_of HT_.out (by kernel_rfl)) ?_
            have hcz51_0 : w48.cell? ⟨gb1371, 0, none⟩ = some (.int .i64 t1361) := (blk_cell BK1371.out 0).trans rfl
            have hcz51_1 : w48.cell? ⟨gb1371, 1, none⟩ = some (.slice Ao38 y1380.length co38) := (blk_cell BK1371.out 1).trans rfl
            have hcz51_2 : w48.cell? ⟨gb1371, 2, none⟩ = some (.slice Ao28 t1365.length co28) := (blk_cell BK1371.out 2).trans rfl
            have hcz51_3 : w48.cell? ⟨gb1371, 3, none⟩ = some (.slice Ao29 t1368.length co29) := (blk_cell BK1371.out 3).trans rfl
            have hfz51_0 := blk_frozen BK1371.out 0
            have hfz51_1 := blk_frozen BK1371.out 1
            have hfz51_2 := blk_frozen BK1371.out 2
            have hfz51_3 := blk_frozen BK1371.out 3
            have hcz52_0 : w48.cell? ⟨gb1360, 0, none⟩ = some (.int .i64 0) := (blk_cell BK1360.out 0).trans rfl
            have hcz52_1 : w48.cell? ⟨gb1360, 1, none⟩ = some (.slice none 0 0) := (blk_cell BK1360.out 1).trans rfl
            have hcz52_2 : w48.cell? ⟨gb1360, 2, none⟩ = some (.slice none 0 0) := (blk_cell BK1360.out 2).trans rfl
            have hcz52_3 : w48.cell? ⟨gb1360, 3, none⟩ = some (.slice none 0 0) := (blk_cell BK1360.out 3).trans rfl
            have hfz52_0 := blk_frozen BK1360.out 0
            have hfz52_1 := blk_frozen BK1360.out 1
            have hfz52_2 := blk_frozen BK1360.out 2
            have hfz52_3 := blk_frozen BK1360.out 3
            try go_wp2
            refine bodyPost_ret (results_cell_row rfl _ _ gb1360 26 #[.int .i64 t1361, .slice Ao38 y1380.length co38, .slice Ao49 y1391.length co49, .slice Ao29 t1368.length co29] (0, 0) _ rfl (by (with_reducible repeat (first | refine blk_drewN ?_ _ | refine blk_drew ?_ | refine blk_alloc ?_ _)); refine blk_put (cs := #[.int .i64 t1361, .slice Ao38 y1380.length co38, .slice Ao49 y1391.length co49, .slice none 0 0]) ?_ 3 _ rfl; (with_reducible repeat (first | refine blk_drewN ?_ _ | refine blk_drew ?_ | refine blk_alloc ?_ _)); refine blk_put (cs := #[.int .i64 t1361, .slice Ao38 y1380.length co38, .slice none 0 0, .slice none 0 0]) ?_ 2 _ rfl; (with_reducible repeat (first | refine blk_drewN ?_ _ | refine blk_drew ?_ | refine blk_alloc ?_ _)); refine blk_put (cs := #[.int .i64 t1361, .slice none 0 0, .slice none 0 0, .slice none 0 0]) ?_ 1 _ rfl; (with_reducible repeat (first | refine blk_drewN ?_ _ | refine blk_drew ?_ | refine blk_alloc ?_ _)); refine blk_put (cs := #[.int .i64 0, .slice none 0 0, .slice none 0 0, .slice none 0 0]) ?_ 0 _ rfl; (with_reducible repeat (first | refine blk_drewN ?_ _ | refine blk_drew ?_ | refine blk_alloc ?_ _)); refine blk_far ?_ NB1360_1371.out _; (with_reducible repeat (first | refine blk_drewN ?_ _ | refine blk_drew ?_ | refine blk_alloc ?_ _)); exact BK1360.out) Try.underlying26 rfl (by kernel_rfl)) rfl ?_
            exact ⟨_, _, _, by first | rfl | (simp [errW_none, errW_some] <;> rfl) | (simp only [← hji7]; first | rfl | (simp [errW_none, errW_some] <;> rfl)) | (simp [*, errW_none, errW_some] <;> rfl), by (with_reducible repeat (first | apply Kd.R_alloc | apply Kd.R_drewN | apply Kd.R_drew)); exact Kd.R_mono (Kd.R_far (p := ⟨gb1360, 3, none⟩) (Kd.R_far (p := ⟨gb1360, 2, none⟩) (Kd.R_far (p := ⟨gb1360, 1, none⟩) (Kd.R_far (p := ⟨gb1360, 0, none⟩) (Kd.R_far (p := ⟨gb1371, 2, none⟩) (Kd.R_types (Kd.R_types HO1382.out BK1371.out (by decide)) BK1360.out (by decide)) (fun _ hk => hk.1.2) (.slice Ao49 y1391.length co49)) (fun _ hk => hk.2) (.int .i64 t1361)) (fun _ hk => hk.2) (.slice Ao38 y1380.length co38)) (fun _ hk => hk.2) (.slice Ao49 y1391.length co49)) (fun _ hk => hk.2) (.slice Ao29 t1368.length co29)) (fun _ hk => ⟨hk.1.1.2, hk.1.1.1.2.2⟩), by (with_reducible repeat (first | apply Kd.R_alloc | apply Kd.R_drewN | apply Kd.R_drew)); exact Kd.R_mono (Kd.R_far (p := ⟨gb1360, 3, none⟩) (Kd.R_far (p := ⟨gb1360, 2, none⟩) (Kd.R_far (p := ⟨gb1360, 1, none⟩) (Kd.R_far (p := ⟨gb1360, 0, none⟩) (Kd.R_far (p := ⟨gb1371, 2, none⟩) (Kd.R_types (Kd.R_types HO1393.out BK1371.out (by decide)) BK1360.out (by decide)) (fun _ hk => hk.1.2) (.slice Ao49 y1391.length co49)) (fun _ hk => hk.2) (.int .i64 t1361)) (fun _ hk => hk.2) (.slice Ao38 y1380.length co38)) (fun _ hk => hk.2) (.slice Ao49 y1391.length co49)) (fun _ hk => hk.2) (.slice Ao29 t1368.length co29)) (fun _ hk => ⟨hk.1.1.2.2.2, hk.1.1.2.2.1⟩), by (with_reducible repeat (first | apply Kd.R_alloc | apply Kd.R_drewN | apply Kd.R_drew)); exact Kd.R_mono (Kd.R_far (p := ⟨gb1360, 3, none⟩) (Kd.R_far (p := ⟨gb1360, 2, none⟩) (Kd.R_far (p := ⟨gb1360, 1, none⟩) (Kd.R_far (p := ⟨gb1360, 0, none⟩) (Kd.R_far (p := ⟨gb1371, 2, none⟩) (Kd.R_types (Kd.R_types HO1370.out BK1371.out (by decide)) BK1360.out (by decide)) (fun _ hk => hk.1.2) (.slice Ao49 y1391.length co49)) (fun _ hk => hk.2) (.int .i64 t1361)) (fun _ hk => hk.2) (.slice Ao38 y1380.length co38)) (fun _ hk => hk.2) (.slice Ao49 y1391.length co49)) (fun _ hk => hk.2) (.slice Ao29 t1368.length co29)) (fun _ hk => ⟨hk.1.1.1.2.2, hk.1.1.2⟩), hb_ HB.out⟩
           ·
            rw [if_neg c17] at H
            exact absurd H (by simp)
          ·
           rw [if_neg c16] at H
           exact absurd H (by simp)
         ·
          rw [if_neg c14] at H
          exact absurd H (by simp)
        ·
         rw [if_neg c13] at H
         exact absurd H (by simp)
       ·
        rw [if_neg c11] at H
        have c11b0 : decide (a1 < (l0_2.length : Int)) = false := decide_eq_false c11
        clear c11
        simp only [Option.some.injEq, Prod.mk.injEq] at H
        obtain ⟨rfl, rfl, rfl, rfl⟩ := H
        go_enter Try.func177, Try.ntmps177
        try go_wp2_with (first | ((with_reducible refine gate_dst (N := 2) rfl ?_); refine box_event ?hg (N := 2) ?hd (cs := #[.int .i64 a0_0, .slice A0_1 l0_1.length c0_1, .slice A0_2 l0_2.length c0_2, .slice A0_3 l0_3.length c0_3]) (t := 26) ?hr ?_; (case hd => rfl); (case hg => rfl); (case hr => first | (go_simp; done) | (go_simp; rfl)); intro gb1359 hg w53 hbox hb; have n0_ := Aside0.mk (below_step (hb_ HB.out) hb); have n1_ := Aside0.mk (hbox); have n2_ := Aside0.mk ((by rw [hg]; exact (below_size (hb_ HB.out)) : w.heap.size ≤ gb1359)); have n3_ := Aside0.mk ((by rw [hg]; exact (below_size (hb_ HB.out)) : w.heap.size ≤ gb1359)); clear HB; have HB := n0_; have BK1359 := n1_; have GW1359 := n2_; have GE1359 := n3_; clear n0_ n1_ n2_ n3_; clear hb hbox hg) | ((with_reducible refine gate_dst (N := 4) rfl ?_); refine box_event ?hg (N := 4) ?hd (cs := #[.int .i64 0, .slice none 0 0, .slice none 0 0, .slice none 0 0]) (t := 26) ?hr ?_; (case hd => rfl); (case hg => rfl); (case hr => first | (go_simp; done) | (go_simp; rfl)); intro gb1360 hg w54 hbox hb; have n0_ := Aside0.mk (bb_ BK1359.out hb); have n1_ := Aside0.mk (below_step (hb_ HB.out) hb); have n2_ := Aside0.mk (hbox); have n3_ := Aside0.mk ((by rw [hg]; exact (below_size (hb_ HB.out)) : w.heap.size ≤ gb1360)); have n4_ := Aside0.mk ((by rw [hg]; exact (below_size (hb_ HB.out)) : w.heap.size ≤ gb1360)); have n5_ := Aside0.mk ((nl_ BK1359.out hg : gb1359 ≠ gb1360)); have n6_ := Aside0.mk ((ng_ BK1359.out hg : gb1360 ≠ gb1359)); clear BK1359; clear HB; have BK1359 := n0_; have HB := n1_; have BK1360 := n2_; have GW1360 := n3_; have GE1360 := n4_; have NB1359_1360 := n5_; have NB1360_1359 := n6_; clear n0_ n1_ n2_ n3_ n4_ n5_ n6_; clear hb hbox hg; have hnb55 := NB1359_1360.out; have hnc55 := NB1360_1359.out; have hcz56_0 : w54.cell? ⟨gb1359, 0, none⟩ = some (.int .i64 a0_0) := (blk_cell BK1359.out 0).trans rfl; have hcz56_1 : w54.cell? ⟨gb1359, 1, none⟩ = some (.slice A0_1 l0_1.length c0_1) := (blk_cell BK1359.out 1).trans rfl; have hcz56_2 : w54.cell? ⟨gb1359, 2, none⟩ = some (.slice A0_2 l0_2.length c0_2) := (blk_cell BK1359.out 2).trans rfl; have hcz56_3 : w54.cell? ⟨gb1359, 3, none⟩ = some (.slice A0_3 l0_3.length c0_3) := (blk_cell BK1359.out 3).trans rfl; have hfz56_0 := blk_frozen BK1359.out 0; have hfz56_1 := blk_frozen BK1359.out 1; have hfz56_2 := blk_frozen BK1359.out 2; have hfz56_3 := blk_frozen BK1359.out 3) | ((with_reducible refine gate_callee (f := 83) rfl ?_); refine goesL_ (some 7) rfl rfl Try.func83 (by kernel_rfl) rfl #[.agg #[.int .i64 a0_0, .slice A0_1 l0_1.length c0_1, .slice A0_2 l0_2.length c0_2, .slice A0_3 l0_3.length c0_3]] rfl sm_ ?_; (with_reducible refine (spec_l5Copy.calls a0_0 _ _ l0_1 _ _ l0_2 _ _ l0_3 t1361 t1362 t1365 t1368 _ ?side1 ?side2 ?side3 ?side4 ?side5 ?side6 A3.out).mono ?_); (case side1 => repeat (first | exact (Kd.C_below HR0_1.out HB.out) | (with_reducible refine Kd.C_alloc ?_ _) | (with_reducible refine Kd.C_drewN ?_ _) | (with_reducible refine Kd.C_drew ?_))); (case side2 => exact HC0_1.out); (case side3 => repeat (first | exact (Kd.C_below HR0_2.out HB.out) | (with_reducible refine Kd.C_alloc ?_ _) | (with_reducible refine Kd.C_drewN ?_ _) | (with_reducible refine Kd.C_drew ?_))); (case side4 => exact HC0_2.out); (case side5 => repeat (first | exact (Kd.C_below HR0_3.out HB.out) | (with_reducible refine Kd.C_alloc ?_ _) | (with_reducible refine Kd.C_drewN ?_ _) | (with_reducible refine Kd.C_drew ?_))); (case side6 => exact HC0_3.out); rintro e w57 ⟨v1363, v1366, v1369, rfl, ho0, ho1, ho2, hb⟩; refine ⟨_, rfl, ?_⟩; have n0_ := Aside0.mk (Kd.R_lower ho0 (below_size (hb_ HB.out))); have n1_ := Aside0.mk (Kd.R_lower ho1 (below_size (hb_ HB.out))); have n2_ := Aside0.mk (Kd.R_lower ho2 (below_size (hb_ HB.out))); have n3_ := Aside0.mk (bb_ BK1359.out hb); have n4_ := Aside0.mk (bb_ BK1360.out hb); have n5_ := Aside0.mk (below_step (hb_ HB.out) hb); clear BK1359; clear BK1360; clear HB; have HO1364 := n0_; have HO1367 := n1_; have HO1370 := n2_; have BK1359 := n3_; have BK1360 := n4_; have HB := n5_; clear n0_ n1_ n2_ n3_ n4_ n5_; (try clear hb); (try clear hb2); (try clear hk); (try clear hi); (try clear ho0); (try clear ho1); (try clear ho2)) | ((with_reducible refine gate_dst (N := 5) rfl ?_); refine box_event ?hg (N := 5) ?hd (cs := #[.int .i64 0, .slice none 0 0, .slice none 0 0, .slice none 0 0]) (t := 26) ?hr ?_; (case hd => rfl); (case hg => rfl); (case hr => first | (go_simp; done) | (go_simp; rfl)); intro gb1371 hg w58 hbox hb; have n0_ := Aside0.mk (Kd.R_below (rq_ HO1364.out) hb); have n1_ := Aside0.mk (Kd.R_below (rq_ HO1367.out) hb); have n2_ := Aside0.mk (Kd.R_below (rq_ HO1370.out) hb); have n3_ := Aside0.mk (bb_ BK1359.out hb); have n4_ := Aside0.mk (bb_ BK1360.out hb); have n5_ := Aside0.mk (below_step (hb_ HB.out) hb); have n6_ := Aside0.mk (hbox); have n7_ := Aside0.mk ((by rw [hg]; exact (below_size (hb_ HB.out)) : w.heap.size ≤ gb1371)); have n8_ := Aside0.mk ((by rw [hg]; exact (below_size (hb_ HB.out)) : w.heap.size ≤ gb1371)); have n9_ := Aside0.mk ((nl_ BK1359.out hg : gb1359 ≠ gb1371)); have n10_ := Aside0.mk ((ng_ BK1359.out hg : gb1371 ≠ gb1359)); have n11_ := Aside0.mk ((nl_ BK1360.out hg : gb1360 ≠ gb1371)); have n12_ := Aside0.mk ((ng_ BK1360.out hg : gb1371 ≠ gb1360)); clear HO1364; clear HO1367; clear HO1370; clear BK1359; clear BK1360; clear HB; have HO1364 := n0_; have HO1367 := n1_; have HO1370 := n2_; have BK1359 := n3_; have BK1360 := n4_; have HB := n5_; have BK1371 := n6_; have GW1371 := n7_; have GE1371 := n8_; have NB1359_1371 := n9_; have NB1371_1359 := n10_; have NB1360_1371 := n11_; have NB1371_1360 := n12_; clear n0_ n1_ n2_ n3_ n4_ n5_ n6_ n7_ n8_ n9_ n10_ n11_ n12_; clear hb hbox hg; have hnb59 := NB1371_1359.out; have hnc59 := NB1359_1371.out; have hnb60 := NB1371_1360.out; have hnc60 := NB1360_1371.out; have hcz61_0 : w58.cell? ⟨gb1371, 0, none⟩ = some (.int .i64 0) := (blk_cell BK1371.out 0).trans rfl; have hcz61_1 : w58.cell? ⟨gb1371, 1, none⟩ = some (.slice none 0 0) := (blk_cell BK1371.out 1).trans rfl; have hcz61_2 : w58.cell? ⟨gb1371, 2, none⟩ = some (.slice none 0 0) := (blk_cell BK1371.out 2).trans rfl; have hcz61_3 : w58.cell? ⟨gb1371, 3, none⟩ = some (.slice none 0 0) := (blk_cell BK1371.out 3).trans rfl; have hfz61_0 := blk_frozen BK1371.out 0; have hfz61_1 := blk_frozen BK1371.out 1; have hfz61_2 := blk_frozen BK1371.out 2; have hfz61_3 := blk_frozen BK1371.out 3; obtain ⟨Ao62, co62, eo62⟩ := Kd.R_slice HO1364.out; subst eo62; obtain ⟨Ao63, co63, eo63⟩ := Kd.R_slice HO1367.out; subst eo63; obtain ⟨Ao64, co64, eo64⟩ := Kd.R_slice HO1370.out; subst eo64))
        have n0_ : Aside0 (Kd.R (Kd.int .i64) 3 ((((w58.setCell ⟨gb1371, 0, none⟩ (.int .i64 t1361)).setCell ⟨gb1371, 1, none⟩ (.slice Ao62 t1362.length co62)).setCell ⟨gb1371, 2, none⟩ (.slice Ao63 t1365.length co63)).setCell ⟨gb1371, 3, none⟩ (.slice Ao64 t1368.length co64)) w.heap.size (fun k_ => some k_ ≠ (.slice Ao63 t1365.length co63 : Value).ownBlock ∧ some k_ ≠ (.slice Ao64 t1368.length co64 : Value).ownBlock) (.slice Ao62 t1362.length co62) t1362) := ⟨by (with_reducible repeat (first | apply Kd.R_alloc | apply Kd.R_drewN | apply Kd.R_drew)); exact Kd.R_mono (Kd.R_far (p := ⟨gb1371, 3, none⟩) (Kd.R_far (p := ⟨gb1371, 2, none⟩) (Kd.R_far (p := ⟨gb1371, 1, none⟩) (Kd.R_far (p := ⟨gb1371, 0, none⟩) (Kd.R_types HO1364.out BK1371.out (by decide)) (fun _ hk => hk.2) (.int .i64 t1361)) (fun _ hk => hk.2) (.slice Ao62 t1362.length co62)) (fun _ hk => hk.2) (.slice Ao63 t1365.length co63)) (fun _ hk => hk.2) (.slice Ao64 t1368.length co64)) (fun _ hk => ⟨hk.1.1, hk.1.2⟩)⟩
        have n1_ : Aside0 (Kd.R (Kd.int .i64) 3 ((((w58.setCell ⟨gb1371, 0, none⟩ (.int .i64 t1361)).setCell ⟨gb1371, 1, none⟩ (.slice Ao62 t1362.length co62)).setCell ⟨gb1371, 2, none⟩ (.slice Ao63 t1365.length co63)).setCell ⟨gb1371, 3, none⟩ (.slice Ao64 t1368.length co64)) w.heap.size (fun k_ => some k_ ≠ (.slice Ao62 t1362.length co62 : Value).ownBlock ∧ some k_ ≠ (.slice Ao64 t1368.length co64 : Value).ownBlock) (.slice Ao63 t1365.length co63) t1365) := ⟨by (with_reducible repeat (first | apply Kd.R_alloc | apply Kd.R_drewN | apply Kd.R_drew)); exact Kd.R_mono (Kd.R_far (p := ⟨gb1371, 3, none⟩) (Kd.R_far (p := ⟨gb1371, 2, none⟩) (Kd.R_far (p := ⟨gb1371, 1, none⟩) (Kd.R_far (p := ⟨gb1371, 0, none⟩) (Kd.R_types HO1367.out BK1371.out (by decide)) (fun _ hk => hk.2) (.int .i64 t1361)) (fun _ hk => hk.2) (.slice Ao62 t1362.length co62)) (fun _ hk => hk.2) (.slice Ao63 t1365.length co63)) (fun _ hk => hk.2) (.slice Ao64 t1368.length co64)) (fun _ hk => ⟨hk.1.1, hk.1.2⟩)⟩
        have n2_ : Aside0 (Kd.R (Kd.int .i64) 3 ((((w58.setCell ⟨gb1371, 0, none⟩ (.int .i64 t1361)).setCell ⟨gb1371, 1, none⟩ (.slice Ao62 t1362.length co62)).setCell ⟨gb1371, 2, none⟩ (.slice Ao63 t1365.length co63)).setCell ⟨gb1371, 3, none⟩ (.slice Ao64 t1368.length co64)) w.heap.size (fun k_ => some k_ ≠ (.slice Ao62 t1362.length co62 : Value).ownBlock ∧ some k_ ≠ (.slice Ao63 t1365.length co63 : Value).ownBlock) (.slice Ao64 t1368.length co64) t1368) := ⟨by (with_reducible repeat (first | apply Kd.R_alloc | apply Kd.R_drewN | apply Kd.R_drew)); exact Kd.R_mono (Kd.R_far (p := ⟨gb1371, 3, none⟩) (Kd.R_far (p := ⟨gb1371, 2, none⟩) (Kd.R_far (p := ⟨gb1371, 1, none⟩) (Kd.R_far (p := ⟨gb1371, 0, none⟩) (Kd.R_types HO1370.out BK1371.out (by decide)) (fun _ hk => hk.2) (.int .i64 t1361)) (fun _ hk => hk.2) (.slice Ao62 t1362.length co62)) (fun _ hk => hk.2) (.slice Ao63 t1365.length co63)) (fun _ hk => hk.2) (.slice Ao64 t1368.length co64)) (fun _ hk => ⟨hk.1.1, hk.1.2⟩)⟩
        have n3_ : Aside0 (((((w58.setCell ⟨gb1371, 0, none⟩ (.int .i64 t1361)).setCell ⟨gb1371, 1, none⟩ (.slice Ao62 t1362.length co62)).setCell ⟨gb1371, 2, none⟩ (.slice Ao63 t1365.length co63)).setCell ⟨gb1371, 3, none⟩ (.slice Ao64 t1368.length co64)).heap[gb1359]? = some (.cells #[.int .i64 a0_0, .slice A0_1 l0_1.length c0_1, .slice A0_2 l0_2.length c0_2, .slice A0_3 l0_3.length c0_3] 26 (0, 0))) := ⟨by (with_reducible repeat (first | refine blk_drewN ?_ _ | refine blk_drew ?_ | refine blk_alloc ?_ _)); refine blk_far ?_ NB1359_1371.out _; (with_reducible repeat (first | refine blk_drewN ?_ _ | refine blk_drew ?_ | refine blk_alloc ?_ _)); refine blk_far ?_ NB1359_1371.out _; (with_reducible repeat (first | refine blk_drewN ?_ _ | refine blk_drew ?_ | refine blk_alloc ?_ _)); refine blk_far ?_ NB1359_1371.out _; (with_reducible repeat (first | refine blk_drewN ?_ _ | refine blk_drew ?_ | refine blk_alloc ?_ _)); refine blk_far ?_ NB1359_1371.out _; (with_reducible repeat (first | refine blk_drewN ?_ _ | refine blk_drew ?_ | refine blk_alloc ?_ _)); exact BK1359.out⟩
        have n4_ : Aside0 (((((w58.setCell ⟨gb1371, 0, none⟩ (.int .i64 t1361)).setCell ⟨gb1371, 1, none⟩ (.slice Ao62 t1362.length co62)).setCell ⟨gb1371, 2, none⟩ (.slice Ao63 t1365.length co63)).setCell ⟨gb1371, 3, none⟩ (.slice Ao64 t1368.length co64)).heap[gb1360]? = some (.cells #[.int .i64 0, .slice none 0 0, .slice none 0 0, .slice none 0 0] 26 (0, 0))) := ⟨by (with_reducible repeat (first | refine blk_drewN ?_ _ | refine blk_drew ?_ | refine blk_alloc ?_ _)); refine blk_far ?_ NB1360_1371.out _; (with_reducible repeat (first | refine blk_drewN ?_ _ | refine blk_drew ?_ | refine blk_alloc ?_ _)); refine blk_far ?_ NB1360_1371.out _; (with_reducible repeat (first | refine blk_drewN ?_ _ | refine blk_drew ?_ | refine blk_alloc ?_ _)); refine blk_far ?_ NB1360_1371.out _; (with_reducible repeat (first | refine blk_drewN ?_ _ | refine blk_drew ?_ | refine blk_alloc ?_ _)); refine blk_far ?_ NB1360_1371.out _; (with_reducible repeat (first | refine blk_drewN ?_ _ | refine blk_drew ?_ | refine blk_alloc ?_ _)); exact BK1360.out⟩
        have n5_ : Aside0 (((((w58.setCell ⟨gb1371, 0, none⟩ (.int .i64 t1361)).setCell ⟨gb1371, 1, none⟩ (.slice Ao62 t1362.length co62)).setCell ⟨gb1371, 2, none⟩ (.slice Ao63 t1365.length co63)).setCell ⟨gb1371, 3, none⟩ (.slice Ao64 t1368.length co64)).heap[gb1371]? = some (.cells #[.int .i64 t1361, .slice Ao62 t1362.length co62, .slice Ao63 t1365.length co63, .slice Ao64 t1368.length co64] 26 (0, 0))) := ⟨by (with_reducible repeat (first | refine blk_drewN ?_ _ | refine blk_drew ?_ | refine blk_alloc ?_ _)); refine blk_put (cs := #[.int .i64 t1361, .slice Ao62 t1362.length co62, .slice Ao63 t1365.length co63, .slice none 0 0]) ?_ 3 _ rfl; (with_reducible repeat (first | refine blk_drewN ?_ _ | refine blk_drew ?_ | refine blk_alloc ?_ _)); refine blk_put (cs := #[.int .i64 t1361, .slice Ao62 t1362.length co62, .slice none 0 0, .slice none 0 0]) ?_ 2 _ rfl; (with_reducible repeat (first | refine blk_drewN ?_ _ | refine blk_drew ?_ | refine blk_alloc ?_ _)); refine blk_put (cs := #[.int .i64 t1361, .slice none 0 0, .slice none 0 0, .slice none 0 0]) ?_ 1 _ rfl; (with_reducible repeat (first | refine blk_drewN ?_ _ | refine blk_drew ?_ | refine blk_alloc ?_ _)); refine blk_put (cs := #[.int .i64 0, .slice none 0 0, .slice none 0 0, .slice none 0 0]) ?_ 0 _ rfl; (with_reducible repeat (first | refine blk_drewN ?_ _ | refine blk_drew ?_ | refine blk_alloc ?_ _)); exact BK1371.out⟩
        have n6_ : Aside0 (Below w.heap.size w ((((w58.setCell ⟨gb1371, 0, none⟩ (.int .i64 t1361)).setCell ⟨gb1371, 1, none⟩ (.slice Ao62 t1362.length co62)).setCell ⟨gb1371, 2, none⟩ (.slice Ao63 t1365.length co63)).setCell ⟨gb1371, 3, none⟩ (.slice Ao64 t1368.length co64))) := ⟨hb_ HB.out⟩
        (try clear HO1364)
        (try clear HO1367)
        (try clear HO1370)
        (try clear BK1359)
        (try clear BK1360)
        (try clear BK1371)
        (try clear HB)
        generalize ((((w58.setCell ⟨gb1371, 0, none⟩ (.int .i64 t1361)).setCell ⟨gb1371, 1, none⟩ (.slice Ao62 t1362.length co62)).setCell ⟨gb1371, 2, none⟩ (.slice Ao63 t1365.length co63)).setCell ⟨gb1371, 3, none⟩ (.slice Ao64 t1368.length co64)) = w65 at n0_ n1_ n2_ n3_ n4_ n5_ n6_ ⊢
        have HO1364 := n0_
        have HO1367 := n1_
        have HO1370 := n2_
        have BK1359 := n3_
        have BK1360 := n4_
        have BK1371 := n5_
        have HB := n6_
        clear n0_ n1_ n2_ n3_ n4_ n5_ n6_
        have n0_ := Aside0.mk (Kd.R_drew HO1364.out)
        have n1_ := Aside0.mk (Kd.R_drew HO1367.out)
        have n2_ := Aside0.mk (Kd.R_drew HO1370.out)
        have n3_ := Aside0.mk (blk_drew BK1359.out)
        have n4_ := Aside0.mk (blk_drew BK1360.out)
        have n5_ := Aside0.mk (blk_drew BK1371.out)
        have n6_ := Aside0.mk (below_drew1 HB.out)
        clear HO1364; clear HO1367
        clear HO1370; clear BK1359
        clear BK1360; clear BK1371
        clear HB
        have HO1364 := n0_
        have HO1367 := n1_
        have HO1370 := n2_
        have BK1359 := n3_
        have BK1360 := n4_
        have BK1371 := n5_
        have HB := n6_
        clear n0_ n1_ n2_ n3_ n4_ n5_ n6_
        obtain ⟨i067, hi067, _, hsz67, _⟩ := info_parts info3
        obtain ⟨hcut67, hA67, hC67⟩ := print_take_of (P := Try.prog) (Value.int .i64) 0 24 3 .i64 Try.underlying24 hi067 hsz67 A0_1 c0_1 l0_1 a1 (of_decide_eq_true (by first | (with_reducible assumption) | assumption)) (of_decide_eq_true (by first | (with_reducible assumption) | assumption)) HC0_1.out
        have HR1375 := Aside0.mk (Kd.C_of_reads (h1 := fun _ => rfl) (hA67 _ (Kd.reads_of_C HR0_1.out)))
        have HC1375 := Aside0.mk hC67
        clear hA67 hC67 hi067 hsz67
        obtain ⟨i068, hi068, _, hsz68, _⟩ := info_parts info3
        obtain ⟨A68, hcut68, hA68, hC68⟩ := print_drop_of (P := Try.prog) (Value.int .i64) 0 24 3 .i64 Try.underlying24 hi068 hsz68 A0_1 c0_1 l0_1 (ji7) (of_decide_eq_true (by first | (with_reducible assumption) | assumption)) (of_decide_eq_true (by first | (with_reducible assumption) | assumption)) HC0_1.out
        have HR1379 := Aside0.mk (Kd.C_of_reads (h1 := fun _ => rfl) (hA68 _ (Kd.reads_of_C HR0_1.out)))
        have HC1379 := Aside0.mk hC68
        clear hA68 hC68 hi068 hsz68
        refine start_ (n := 14) (S := fun w' => w'.cell? ⟨gb1359, 0, none⟩ = some (.int .i64 a0_0) ∧ w'.cell? ⟨gb1359, 1, none⟩ = some (.slice A0_1 l0_1.length c0_1) ∧ w'.cell? ⟨gb1359, 2, none⟩ = some (.slice A0_2 l0_2.length c0_2) ∧ w'.cell? ⟨gb1359, 3, none⟩ = some (.slice A0_3 l0_3.length c0_3)) (ds := []) spec_l5Without.m0 (by kernel_rfl) rfl rfl ⟨(blk_cell BK1359.out 0).trans rfl, (blk_cell BK1359.out 1).trans rfl, (blk_cell BK1359.out 2).trans rfl, (blk_cell BK1359.out 3).trans rfl⟩ (fun hHeld => ?_); refine with_tabW spec_l5Without.tab2 spec_l5Without.bits2 (fun HT_ HW_ => ?_)
        generalize w65.drew = w66 at HO1364 HO1367 HO1370 BK1359 BK1360 BK1371 HB HR1375 HR1379 hHeld ⊢
        refine pI_ 1 9 HT_ spec_l5Without.m1 rfl rfl ?_
        refine pI_ 3 11 HT_ spec_l5Without.m2 rfl rfl ?_
        refine pI_ 6 14 HT_ spec_l5Without.m3 rfl rfl ?_
        refine pI_ 8 16 HT_ spec_l5Without.m4 rfl rfl ?_
        refine pI_ 9 17 HT_ spec_l5Without.m5 rfl rfl ?_
        refine take_ (i := 2) (N := some 10) (v := ?_) (a' := ?_) spec_l5Without.m6 rfl rfl (take_ofW HT_.out HW_.out (by kernel_rfl)) (fun _ _ _ h => h) (Or.inl ⟨by rfl, ?_⟩) hHeld ?_ ?_
        rotate_left
        ·
         rintro w' ⟨s0, s1, s2, s3⟩
         go_simp
         with_reducible rfl
        rotate_left; (focus simp only [Act.put, List.setIfInBounds_toArray, List.set_cons_zero, List.set_cons_succ, i64_w, i32_w]; rfl)
        refine pI_ 4 12 HT_ spec_l5Without.m7 rfl rfl ?_
        refine take_ (i := 7) (N := some 15) (v := ?_) (a' := ?_) spec_l5Without.m8 rfl rfl (take_ofW HT_.out HW_.out (by kernel_rfl)) (fun _ _ _ h => h) (Or.inl ⟨by rfl, ?_⟩) hHeld ?_ ?_
        rotate_left
        ·
         rintro w' ⟨s0, s1, s2, s3⟩
         go_simp
         with_reducible rfl
        rotate_left; (focus simp only [Act.put, List.setIfInBounds_toArray, List.set_cons_zero, List.set_cons_succ, i64_w, i32_w]; rfl)
        refine pI_ 10 18 HT_ spec_l5Without.m9 rfl rfl ?_
        refine one_ (i := 0) (N := some 8) spec_l5Without.m10 rfl rfl (one_of HT_.out (by kernel_rfl)) (by decide) (fun K hK => ?_)
        refine Kd.R_lit_step (Kd.int .i64) _ 3 ?hg (N := 8) ?hd (xs := ([] : List Int)) (inner := []) (ok := fun _ => True) (okp := fun _ => True) ?hr ?hp (fun _ hk => hk) trivial (Below.refl _ _) (Nat.le_refl _) (by simp) ?_; (case hd => rfl); (case hg => rfl); (case hr => first | (go_simp; done) | (go_simp; rfl)); (case hp => exact (Reps.none _ _))
        intro v1373 w69 ho70 hb hg_ hnew_
        clear hg_ hnew_
        (first | rw [← Ny1372.out] at ho70 | (simp only [Int.reduceToNat] at ho70; rw [← Ny1372.out] at ho70))
        have n0_ := Aside0.mk (Kd.R_elder' (rq_ HO1364.out) (Kd.R_base ho70) hb)
        have n1_ := Aside0.mk (Kd.R_elder' (rq_ HO1367.out) (Kd.R_base ho70) hb)
        have n2_ := Aside0.mk (Kd.R_elder' (rq_ HO1370.out) (Kd.R_base ho70) hb)
        have n3_ := Aside0.mk (Kd.R_lower (Kd.R_new' (Kd.R_new' (Kd.R_new' ho70 (Kd.R_lt (rq_ HO1364.out))) (Kd.R_lt (rq_ HO1367.out))) (Kd.R_lt (rq_ HO1370.out))) (below_size (hb_ HB.out)))
        have n4_ := Aside0.mk (bb_ BK1359.out hb)
        have n5_ := Aside0.mk (bb_ BK1360.out hb)
        have n6_ := Aside0.mk (bb_ BK1371.out hb)
        have n7_ := Aside0.mk (below_step (hb_ HB.out) hb)
        clear HO1364; clear HO1367
        clear HO1370; clear BK1359
        clear BK1360; clear BK1371
        clear HB
        have HO1364 := n0_
        have HO1367 := n1_
        have HO1370 := n2_
        have HO1374 := n3_
        have BK1359 := n4_
        have BK1360 := n5_
        have BK1371 := n6_
        have HB := n7_
        clear n0_ n1_ n2_ n3_ n4_ n5_ n6_ n7_; clear hb ho70
        refine hK.out _ _ ⟨(blk_cell BK1359.out 0).trans rfl, (blk_cell BK1359.out 1).trans rfl, (blk_cell BK1359.out 2).trans rfl, (blk_cell BK1359.out 3).trans rfl⟩ (fun hHeld => ?_)
        clear hK K
        refine norm_ (a' := ?_) ?_ ?_
        rotate_left
        ·
         show Act.put _ (some 8) _ = _
         simp only [Act.put, List.setIfInBounds_toArray, List.set_cons_zero, List.set_cons_succ, i64_w, i32_w]
         rfl
        refine one_ (i := 5) (N := some 13) spec_l5Without.m11 rfl rfl (one_of HT_.out (by kernel_rfl)) (by decide) (fun K hK => ?_)
        refine Kd.R_append_rows_step (Kd.int .i64) (w0 := w) w.heap.size (by rfl) (.tmp 8) (.tmp 12) 24 3 (.int .i64 0) 8 rfl Try.underlying24 info3 rfl (by decide) (by omega) v1373 y1372 (l0_1.take (a1 : Int).toNat) _ _ _ (fun k_ => some k_ ≠ (.slice Ao62 t1362.length co62 : Value).ownBlock ∧ some k_ ≠ (.slice Ao63 t1365.length co63 : Value).ownBlock ∧ some k_ ≠ (.slice Ao64 t1368.length co64 : Value).ownBlock) (fun _ => False) rfl rfl ?aO ?aR (fun _ _ h => h) (fun _ h => h.elim) ?aF ?aB ?aS ?aL ?_
        (case aR => first | (rw [← show (l0_1.take (a1 : Int).toNat).length = a1.toNat from (by rw [List.length_take]; have h_ : (a1 : Int) ≤ (l0_1.length : Int) := of_decide_eq_true (by first | (with_reducible assumption) | assumption); omega)]; (repeat (first | exact (Kd.C_below HR1375.out HB.out) | (with_reducible refine Kd.C_alloc ?_ _) | (with_reducible refine Kd.C_drewN ?_ _) | (with_reducible refine Kd.C_drew ?_))); done) | (refine cast (congrArg (fun n_ => ReadsRow _ _ _ _ n_ _) (show (l0_1.take (a1 : Int).toNat).length = a1.toNat from (by rw [List.length_take]; have h_ : (a1 : Int) ≤ (l0_1.length : Int) := of_decide_eq_true (by first | (with_reducible assumption) | assumption); omega))) ?_; (repeat (first | exact (Kd.C_below HR1375.out HB.out) | (with_reducible refine Kd.C_alloc ?_ _) | (with_reducible refine Kd.C_drewN ?_ _) | (with_reducible refine Kd.C_drew ?_))); done) | (repeat (first | exact (Kd.C_below HR1375.out HB.out) | (with_reducible refine Kd.C_alloc ?_ _) | (with_reducible refine Kd.C_drewN ?_ _) | (with_reducible refine Kd.C_drew ?_))))
        (case aB => exact (hb_ HB.out))
        (case aF => exact (fun k_ hk => ⟨Kd.fresh' (Kd.R_lt (rq_ HO1364.out)) k_ hk, Kd.fresh' (Kd.R_lt (rq_ HO1367.out)) k_ hk, Kd.fresh' (Kd.R_lt (rq_ HO1370.out)) k_ hk⟩))
        (case aO => exact (rm_ HO1374.out))
        (case aS => exact (below_size (hb_ HB.out)))
        (case aL => have := LMc6.out; have hlx_ := (show (l0_1.take (a1 : Int).toNat).length = a1.toNat from (by rw [List.length_take]; have h_ : (a1 : Int) ≤ (l0_1.length : Int) := of_decide_eq_true (by first | (with_reducible assumption) | assumption); omega)); omega)
        intro v1377 w71 ho hb hg hat
        rw [← Ny1376.out] at ho
        have n0_ := Aside0.mk (blk_grown (g := gb1359) (o := .cells #[.int .i64 a0_0, .slice A0_1 l0_1.length c0_1, .slice A0_2 l0_2.length c0_2, .slice A0_3 l0_3.length c0_3] 26 (0, 0)) (bq_ BK1359.out) hg (Kd.R_ne HO1374.out BK1359.out (by decide)))
        have n1_ := Aside0.mk (blk_grown (g := gb1360) (o := .cells #[.int .i64 0, .slice none 0 0, .slice none 0 0, .slice none 0 0] 26 (0, 0)) (bq_ BK1360.out) hg (Kd.R_ne HO1374.out BK1360.out (by decide)))
        have n2_ := Aside0.mk (Kd.R_after (ok := (fun k_ => some k_ ≠ (.slice Ao63 t1365.length co63 : Value).ownBlock ∧ some k_ ≠ (.slice Ao64 t1368.length co64 : Value).ownBlock)) (rq_ HO1364.out) hg hat)
        have n3_ := Aside0.mk (Kd.R_after (ok := (fun k_ => some k_ ≠ (.slice Ao62 t1362.length co62 : Value).ownBlock ∧ some k_ ≠ (.slice Ao64 t1368.length co64 : Value).ownBlock)) (rq_ HO1367.out) hg hat)
        have n4_ := Aside0.mk (Kd.R_after (ok := (fun k_ => some k_ ≠ (.slice Ao62 t1362.length co62 : Value).ownBlock ∧ some k_ ≠ (.slice Ao63 t1365.length co63 : Value).ownBlock)) (rq_ HO1370.out) hg hat)
        have n5_ := Aside0.mk (blk_grown (g := gb1371) (o := .cells #[.int .i64 t1361, .slice Ao62 t1362.length co62, .slice Ao63 t1365.length co63, .slice Ao64 t1368.length co64] 26 (0, 0)) (bq_ BK1371.out) hg (Kd.R_ne HO1374.out BK1371.out (by decide)))
        have n6_ := Aside0.mk (hb)
        have n7_ := Aside0.mk (ho)
        clear BK1359; clear BK1360
        clear HO1364; clear HO1367
        clear HO1370; clear BK1371
        clear HB; clear HO1374
        have BK1359 := n0_
        have BK1360 := n1_
        have HO1364 := n2_
        have HO1367 := n3_
        have HO1370 := n4_
        have BK1371 := n5_
        have HB := n6_
        have HO1378 := n7_
        clear n0_ n1_ n2_ n3_ n4_ n5_ n6_ n7_; clear ho hb hg hat
        refine hK.out _ _ ⟨(blk_cell BK1359.out 0).trans rfl, (blk_cell BK1359.out 1).trans rfl, (blk_cell BK1359.out 2).trans rfl, (blk_cell BK1359.out 3).trans rfl⟩ (fun hHeld => ?_)
        clear hK K
        refine norm_ (a' := ?_) ?_ ?_
        rotate_left
        ·
         show Act.put _ (some 13) _ = _
         simp only [Act.put, List.setIfInBounds_toArray, List.set_cons_zero, List.set_cons_succ, i64_w, i32_w]
         rfl
        refine one_ (i := 11) (N := some 19) spec_l5Without.m12 rfl rfl (one_of HT_.out (by kernel_rfl)) (by decide) (fun K hK => ?_)
        refine Kd.R_append_rows_step (Kd.int .i64) (w0 := w) w.heap.size (by rfl) (.tmp 13) (.tmp 18) 24 3 (.int .i64 0) 8 rfl Try.underlying24 info3 rfl (by decide) (by omega) v1377 y1376 (l0_1.drop ((ji7) : Int).toNat) _ _ _ (fun k_ => some k_ ≠ (.slice Ao62 t1362.length co62 : Value).ownBlock ∧ some k_ ≠ (.slice Ao63 t1365.length co63 : Value).ownBlock ∧ some k_ ≠ (.slice Ao64 t1368.length co64 : Value).ownBlock) (fun _ => False) rfl rfl ?aO ?aR (fun _ _ h => h) (fun _ h => h.elim) ?aF ?aB ?aS ?aL ?_
        (case aR => first | (rw [← show (l0_1.drop ((ji7) : Int).toNat).length = (l0_1.length - (ji7).toNat) from List.length_drop]; (repeat (first | exact (Kd.C_below HR1379.out HB.out) | (with_reducible refine Kd.C_alloc ?_ _) | (with_reducible refine Kd.C_drewN ?_ _) | (with_reducible refine Kd.C_drew ?_))); done) | (refine cast (congrArg (fun n_ => ReadsRow _ _ _ _ n_ _) (show (l0_1.drop ((ji7) : Int).toNat).length = (l0_1.length - (ji7).toNat) from List.length_drop)) ?_; (repeat (first | exact (Kd.C_below HR1379.out HB.out) | (with_reducible refine Kd.C_alloc ?_ _) | (with_reducible refine Kd.C_drewN ?_ _) | (with_reducible refine Kd.C_drew ?_))); done) | (repeat (first | exact (Kd.C_below HR1379.out HB.out) | (with_reducible refine Kd.C_alloc ?_ _) | (with_reducible refine Kd.C_drewN ?_ _) | (with_reducible refine Kd.C_drew ?_))))
        (case aB => exact (hb_ HB.out))
        (case aF => exact (fun k_ hk => ⟨Kd.fresh' (Kd.R_lt (rq_ HO1364.out)) k_ hk, Kd.fresh' (Kd.R_lt (rq_ HO1367.out)) k_ hk, Kd.fresh' (Kd.R_lt (rq_ HO1370.out)) k_ hk⟩))
        (case aO => exact (rq_ HO1378.out))
        (case aS => exact (below_size (hb_ HB.out)))
        (case aL => have := LMc10.out; have hlx_ := (show (l0_1.drop ((ji7) : Int).toNat).length = (l0_1.length - (ji7).toNat) from List.length_drop); omega)
        intro v1381 w72 ho hb hg hat
        rw [← Ny1380.out] at ho
        have n0_ := Aside0.mk (blk_grown (g := gb1359) (o := .cells #[.int .i64 a0_0, .slice A0_1 l0_1.length c0_1, .slice A0_2 l0_2.length c0_2, .slice A0_3 l0_3.length c0_3] 26 (0, 0)) (bq_ BK1359.out) hg (Kd.R_ne HO1378.out BK1359.out (by decide)))
        have n1_ := Aside0.mk (blk_grown (g := gb1360) (o := .cells #[.int .i64 0, .slice none 0 0, .slice none 0 0, .slice none 0 0] 26 (0, 0)) (bq_ BK1360.out) hg (Kd.R_ne HO1378.out BK1360.out (by decide)))
        have n2_ := Aside0.mk (Kd.R_after (ok := (fun k_ => some k_ ≠ (.slice Ao63 t1365.length co63 : Value).ownBlock ∧ some k_ ≠ (.slice Ao64 t1368.length co64 : Value).ownBlock)) (rq_ HO1364.out) hg hat)
        have n3_ := Aside0.mk (Kd.R_after (ok := (fun k_ => some k_ ≠ (.slice Ao62 t1362.length co62 : Value).ownBlock ∧ some k_ ≠ (.slice Ao64 t1368.length co64 : Value).ownBlock)) (rq_ HO1367.out) hg hat)
        have n4_ := Aside0.mk (Kd.R_after (ok := (fun k_ => some k_ ≠ (.slice Ao62 t1362.length co62 : Value).ownBlock ∧ some k_ ≠ (.slice Ao63 t1365.length co63 : Value).ownBlock)) (rq_ HO1370.out) hg hat)
        have n5_ := Aside0.mk (blk_grown (g := gb1371) (o := .cells #[.int .i64 t1361, .slice Ao62 t1362.length co62, .slice Ao63 t1365.length co63, .slice Ao64 t1368.length co64] 26 (0, 0)) (bq_ BK1371.out) hg (Kd.R_ne HO1378.out BK1371.out (by decide)))
        have n6_ := Aside0.mk (hb)
        have n7_ := Aside0.mk (ho)
        clear BK1359; clear BK1360
        clear HO1364; clear HO1367
        clear HO1370; clear BK1371
        clear HB; clear HO1378
        have BK1359 := n0_
        have BK1360 := n1_
        have HO1364 := n2_
        have HO1367 := n3_
        have HO1370 := n4_
        have BK1371 := n5_
        have HB := n6_
        have HO1382 := n7_
        clear n0_ n1_ n2_ n3_ n4_ n5_ n6_ n7_; clear ho hb hg hat
        obtain ⟨Ao73, co73, eo73⟩ := Kd.R_slice HO1382.out
        (first | subst eo73 | (injection eo73 with f1_ f2_ f3_; have f4_ := f1_.symm; have f5_ := f3_.symm; clear f1_ f2_ f3_; subst f4_; subst f5_))
        refine hK.out _ _ ⟨(blk_cell BK1359.out 0).trans rfl, (blk_cell BK1359.out 1).trans rfl, (blk_cell BK1359.out 2).trans rfl, (blk_cell BK1359.out 3).trans rfl⟩ (fun hHeld => ?_)
        clear hK K
        refine norm_ (a' := ?_) ?_ ?_
        rotate_left
        ·
         show Act.put _ (some 19) _ = _
         simp only [Act.put, List.setIfInBounds_toArray, List.set_cons_zero, List.set_cons_succ, i64_w, i32_w]
         rfl
        refine pI_ 12 20 HT_ spec_l5Without.m13 rfl rfl ?_
        refine one_ (i := 13) (N := none) spec_l5Without.m14 rfl rfl (one_of HT_.out (by kernel_rfl)) (by decide) (fun K hK => ?_)
        have hs74 : w72.cell? ⟨gb1371, 1, none⟩ = some (.slice Ao62 t1362.length co62) := (blk_cell BK1371.out 1).trans rfl
        have hfs74 := blk_frozen BK1371.out 1
        have hns74_0 := NB1359_1371.out
        have hns74_1 := NB1360_1371.out
        have hms74_0 := NB1371_1359.out
        have hms74_1 := NB1371_1360.out
        refine skip_ (w1 := ?_) (by rfl) rfl ?_ ?_
        rotate_left; (focus go_simp; rfl)
        refine hK.out _ _ ⟨((cell_far (p := ⟨gb1371, _, none⟩) NB1359_1371.out _).trans (hHeld.1)), ((cell_far (p := ⟨gb1371, _, none⟩) NB1359_1371.out _).trans (hHeld.2.1)), ((cell_far (p := ⟨gb1371, _, none⟩) NB1359_1371.out _).trans (hHeld.2.2.1)), ((cell_far (p := ⟨gb1371, _, none⟩) NB1359_1371.out _).trans (hHeld.2.2.2))⟩ (fun hHeld => ?_)
        clear hK K
        refine done_ (done_of HT_.out (by kernel_rfl)) ?_
        have hcz75_0 : w72.cell? ⟨gb1359, 0, none⟩ = some (.int .i64 a0_0) := (blk_cell BK1359.out 0).trans rfl
        have hcz75_1 : w72.cell? ⟨gb1359, 1, none⟩ = some (.slice A0_1 l0_1.length c0_1) := (blk_cell BK1359.out 1).trans rfl
        have hcz75_2 : w72.cell? ⟨gb1359, 2, none⟩ = some (.slice A0_2 l0_2.length c0_2) := (blk_cell BK1359.out 2).trans rfl
        have hcz75_3 : w72.cell? ⟨gb1359, 3, none⟩ = some (.slice A0_3 l0_3.length c0_3) := (blk_cell BK1359.out 3).trans rfl
        have hfz75_0 := blk_frozen BK1359.out 0
        have hfz75_1 := blk_frozen BK1359.out 1
        have hfz75_2 := blk_frozen BK1359.out 2
        have hfz75_3 := blk_frozen BK1359.out 3
        have hcz76_0 : w72.cell? ⟨gb1371, 0, none⟩ = some (.int .i64 t1361) := (blk_cell BK1371.out 0).trans rfl
        have hcz76_1 : w72.cell? ⟨gb1371, 1, none⟩ = some (.slice Ao62 t1362.length co62) := (blk_cell BK1371.out 1).trans rfl
        have hcz76_2 : w72.cell? ⟨gb1371, 2, none⟩ = some (.slice Ao63 t1365.length co63) := (blk_cell BK1371.out 2).trans rfl
        have hcz76_3 : w72.cell? ⟨gb1371, 3, none⟩ = some (.slice Ao64 t1368.length co64) := (blk_cell BK1371.out 3).trans rfl
        have hfz76_0 := blk_frozen BK1371.out 0
        have hfz76_1 := blk_frozen BK1371.out 1
        have hfz76_2 := blk_frozen BK1371.out 2
        have hfz76_3 := blk_frozen BK1371.out 3
        have hcz77_0 : w72.cell? ⟨gb1360, 0, none⟩ = some (.int .i64 0) := (blk_cell BK1360.out 0).trans rfl
        have hcz77_1 : w72.cell? ⟨gb1360, 1, none⟩ = some (.slice none 0 0) := (blk_cell BK1360.out 1).trans rfl
        have hcz77_2 : w72.cell? ⟨gb1360, 2, none⟩ = some (.slice none 0 0) := (blk_cell BK1360.out 2).trans rfl
        have hcz77_3 : w72.cell? ⟨gb1360, 3, none⟩ = some (.slice none 0 0) := (blk_cell BK1360.out 3).trans rfl
        have hfz77_0 := blk_frozen BK1360.out 0
        have hfz77_1 := blk_frozen BK1360.out 1
        have hfz77_2 := blk_frozen BK1360.out 2
        have hfz77_3 := blk_frozen BK1360.out 3
        try go_wp2
        refine bodyPost_ret (results_cell_row rfl _ _ gb1360 26 #[.int .i64 t1361, .slice Ao73 y1380.length co73, .slice Ao63 t1365.length co63, .slice Ao64 t1368.length co64] (0, 0) _ rfl (by (with_reducible repeat (first | refine blk_drewN ?_ _ | refine blk_drew ?_ | refine blk_alloc ?_ _)); refine blk_put (cs := #[.int .i64 t1361, .slice Ao73 y1380.length co73, .slice Ao63 t1365.length co63, .slice none 0 0]) ?_ 3 _ rfl; (with_reducible repeat (first | refine blk_drewN ?_ _ | refine blk_drew ?_ | refine blk_alloc ?_ _)); refine blk_put (cs := #[.int .i64 t1361, .slice Ao73 y1380.length co73, .slice none 0 0, .slice none 0 0]) ?_ 2 _ rfl; (with_reducible repeat (first | refine blk_drewN ?_ _ | refine blk_drew ?_ | refine blk_alloc ?_ _)); refine blk_put (cs := #[.int .i64 t1361, .slice none 0 0, .slice none 0 0, .slice none 0 0]) ?_ 1 _ rfl; (with_reducible repeat (first | refine blk_drewN ?_ _ | refine blk_drew ?_ | refine blk_alloc ?_ _)); refine blk_put (cs := #[.int .i64 0, .slice none 0 0, .slice none 0 0, .slice none 0 0]) ?_ 0 _ rfl; (with_reducible repeat (first | refine blk_drewN ?_ _ | refine blk_drew ?_ | refine blk_alloc ?_ _)); refine blk_far ?_ NB1360_1371.out _; (with_reducible repeat (first | refine blk_drewN ?_ _ | refine blk_drew ?_ | refine blk_alloc ?_ _)); exact BK1360.out) Try.underlying26 rfl (by kernel_rfl)) rfl ?_
        exact ⟨_, _, _, by first | rfl | (simp [errW_none, errW_some] <;> rfl) | (simp only [← hji7]; first | rfl | (simp [errW_none, errW_some] <;> rfl)) | (simp [*, errW_none, errW_some] <;> rfl), by (with_reducible repeat (first | apply Kd.R_alloc | apply Kd.R_drewN | apply Kd.R_drew)); exact Kd.R_mono (Kd.R_far (p := ⟨gb1360, 3, none⟩) (Kd.R_far (p := ⟨gb1360, 2, none⟩) (Kd.R_far (p := ⟨gb1360, 1, none⟩) (Kd.R_far (p := ⟨gb1360, 0, none⟩) (Kd.R_far (p := ⟨gb1371, 1, none⟩) (Kd.R_types (Kd.R_types HO1382.out BK1371.out (by decide)) BK1360.out (by decide)) (fun _ hk => hk.1.2) (.slice Ao73 y1380.length co73)) (fun _ hk => hk.2) (.int .i64 t1361)) (fun _ hk => hk.2) (.slice Ao73 y1380.length co73)) (fun _ hk => hk.2) (.slice Ao63 t1365.length co63)) (fun _ hk => hk.2) (.slice Ao64 t1368.length co64)) (fun _ hk => ⟨hk.1.1.2.1, hk.1.1.2.2⟩), by (with_reducible repeat (first | apply Kd.R_alloc | apply Kd.R_drewN | apply Kd.R_drew)); exact Kd.R_mono (Kd.R_far (p := ⟨gb1360, 3, none⟩) (Kd.R_far (p := ⟨gb1360, 2, none⟩) (Kd.R_far (p := ⟨gb1360, 1, none⟩) (Kd.R_far (p := ⟨gb1360, 0, none⟩) (Kd.R_far (p := ⟨gb1371, 1, none⟩) (Kd.R_types (Kd.R_types HO1367.out BK1371.out (by decide)) BK1360.out (by decide)) (fun _ hk => hk.1.2) (.slice Ao73 y1380.length co73)) (fun _ hk => hk.2) (.int .i64 t1361)) (fun _ hk => hk.2) (.slice Ao73 y1380.length co73)) (fun _ hk => hk.2) (.slice Ao63 t1365.length co63)) (fun _ hk => hk.2) (.slice Ao64 t1368.length co64)) (fun _ hk => ⟨hk.1.1.2, hk.1.1.1.2⟩), by (with_reducible repeat (first | apply Kd.R_alloc | apply Kd.R_drewN | apply Kd.R_drew)); exact Kd.R_mono (Kd.R_far (p := ⟨gb1360, 3, none⟩) (Kd.R_far (p := ⟨gb1360, 2, none⟩) (Kd.R_far (p := ⟨gb1360, 1, none⟩) (Kd.R_far (p := ⟨gb1360, 0, none⟩) (Kd.R_far (p := ⟨gb1371, 1, none⟩) (Kd.R_types (Kd.R_types HO1370.out BK1371.out (by decide)) BK1360.out (by decide)) (fun _ hk => hk.1.2) (.slice Ao73 y1380.length co73)) (fun _ hk => hk.2) (.int .i64 t1361)) (fun _ hk => hk.2) (.slice Ao73 y1380.length co73)) (fun _ hk => hk.2) (.slice Ao63 t1365.length co63)) (fun _ hk => hk.2) (.slice Ao64 t1368.length co64)) (fun _ hk => ⟨hk.1.1.2, hk.1.1.1.2⟩), hb_ HB.out⟩
      ·
       rw [if_neg c10] at H
       exact absurd H (by simp)
     ·
      rw [if_neg c9] at H
      exact absurd H (by simp)
    ·
     rw [if_neg c8] at H
     exact absurd H (by simp)
   ·
    rw [if_neg c6] at H
    exact absurd H (by simp)
  ·
   rw [if_neg c5] at H
   exact absurd H (by simp)
 ·
  rw [if_neg c4] at H
  exact absurd H (by simp)
/-! ### spec_l5Up: function 178 -/
def spec_l5Up.f (a0 : Int) : Option (Int) := if a0 ≥ 100000 then (some a0) else (some (wrap64 (a0 + 1)))
set_option maxHeartbeats 8000000 in
set_option maxRecDepth 100000 in
theorem spec_l5Up.calls (a0 : Int) (r : Int) (w : World) (h : spec_l5Up.f a0 = some r) :
 Calls Try.prog 178 #[.int .i64 a0] w fun e w' => e = .returned (.int .i64 r) ∧ Drawn0 w w' := by
 have H : (if a0 ≥ 100000 then (some a0) else (some (wrap64 (a0 + 1)))) = some r := h
 clear h
 by_cases c2 : a0 ≥ 100000
 ·
  rw [if_pos c2] at H
  have c2b0 : decide (100000 ≤ a0) = true := decide_eq_true c2
  clear c2
  obtain rfl := Option.some.inj H
  go_enter Try.func178, Try.ntmps178
  go_wp2
  go_ret
  exact ⟨by first | rfl | (simp; done) | (simp [*]; done), by repeat (first | exact Drawn0.refl _ | apply Drawn0.step)⟩
 ·
  rw [if_neg c2] at H
  have c2b0 : decide (100000 ≤ a0) = false := decide_eq_false c2
  clear c2
  obtain rfl := Option.some.inj H
  go_enter Try.func178, Try.ntmps178
  go_wp2
  go_ret
  exact ⟨by first | rfl | (simp; done) | (simp [*]; done), by repeat (first | exact Drawn0.refl _ | apply Drawn0.step)⟩

/-! ### spec_GroupLeave: function 169 -/
def spec_GroupLeave.j0 : Nat → Int → Bool → Int → List Int → List Int → List Int → Option (Int × List Int × List Int × List Int)
 | 0, _, _, _, _, _, _ => none
 | k + 1, x5, x16, x1395000, x1395001, x1395002, x1395003 => if x16 = true then ((spec_l5Copy.f x1395000 x1395001 x1395002 x1395003).bind fun bt1398 => (some (bt1398.1, bt1398.2.1, bt1398.2.2.1, bt1398.2.2.2))) else ((spec_l5Without.f x1395000 x1395001 x1395002 x1395003 x5).bind fun bt1408 => ((spec_l5Up.f x1395000).bind fun t1419 => (some (t1419, bt1408.2.1, bt1408.2.2.1, bt1408.2.2.2))))
def spec_GroupLeave.f (k : Nat) (a0_0 : Int) (l0_1 : List Int) (l0_2 : List Int) (l0_3 : List Int) (a1 : Int) : Option (Int × List Int × List Int × List Int) := (spec_l5At.f k a0_0 l0_1 l0_2 l0_3 a1).bind fun t1396 => (if t1396 < 0 then (spec_GroupLeave.j0 k t1396 true a0_0 l0_1 l0_2 l0_3) else ((spec_l1In.f a1 0 3).bind fun t1397 => (spec_GroupLeave.j0 k t1396 (!t1397) a0_0 l0_1 l0_2 l0_3)))
theorem spec_GroupLeave.mono_l : ∀ k, (∀ y0 y1 y2 y3 y4 y5, LeO (spec_GroupLeave.j0 k y0 y1 y2 y3 y4 y5) (spec_GroupLeave.j0 (k + 1) y0 y1 y2 y3 y4 y5))
 | 0 => fun _ _ _ _ _ _ r h => by simp [spec_GroupLeave.j0] at h
 | k + 1 => by
  have ih0 := spec_GroupLeave.mono_l k
  ·
   intro y0 y1 y2 y3 y4 y5
   unfold spec_GroupLeave.j0
   repeat' first
   | (with_reducible exact ih0 _ _ _ _ _ _)
   | (with_reducible exact spec_l5At.mono _ _ _ _ _ _)
   | (with_reducible exact LeO.refl _)
   | (with_reducible exact LeO.none _)
   | (with_reducible refine LeO.ite ?_ ?_)
   | (with_reducible refine LeO.bind ?_ (fun _ => ?_))
   | exact ih0 _ _ _ _ _ _
   | exact spec_l5At.mono _ _ _ _ _ _
   | exact LeO.none _
   | refine LeO.ite ?_ ?_
   | refine LeO.bind ?_ (fun _ => ?_)
theorem spec_GroupLeave.mono : ∀ a0 a1 a2 a3 a4 k, LeO (spec_GroupLeave.f k a0 a1 a2 a3 a4) (spec_GroupLeave.f (k + 1) a0 a1 a2 a3 a4) := by
 intro a0 a1 a2 a3 a4 k
 have ih0 := spec_GroupLeave.mono_l k
 unfold spec_GroupLeave.f
 repeat' first
  | (with_reducible exact ih0 _ _ _ _ _ _)
  | (with_reducible exact spec_l5At.mono _ _ _ _ _ _)
  | (with_reducible exact LeO.refl _)
  | (with_reducible exact LeO.none _)
  | (with_reducible refine LeO.ite ?_ ?_)
  | (with_reducible refine LeO.bind ?_ (fun _ => ?_))
  | exact ih0 _ _ _ _ _ _
  | exact spec_l5At.mono _ _ _ _ _ _
  | exact LeO.none _
  | refine LeO.ite ?_ ?_
  | refine LeO.bind ?_ (fun _ => ?_)
set_option maxHeartbeats 8000000 in
set_option maxRecDepth 100000 in
theorem spec_GroupLeave.calls (k : Nat) (a0_0 : Int) (A0_1 : Option Addr) (c0_1 : Nat) (l0_1 : List Int) (A0_2 : Option Addr) (c0_2 : Nat) (l0_2 : List Int) (A0_3 : Option Addr) (c0_3 : Nat) (l0_3 : List Int) (a1 : Int) (r1 : Int) (r2 : List Int) (r3 : List Int) (r4 : List Int) (w : World) (hr0_1 : Kd.C (Kd.int .i64) w A0_1 l0_1.length l0_1) (hc0_1 : l0_1.length ≤ c0_1) (hr0_2 : Kd.C (Kd.int .i64) w A0_2 l0_2.length l0_2) (hc0_2 : l0_2.length ≤ c0_2) (hr0_3 : Kd.C (Kd.int .i64) w A0_3 l0_3.length l0_3) (hc0_3 : l0_3.length ≤ c0_3) (h : spec_GroupLeave.f k a0_0 l0_1 l0_2 l0_3 a1 = some (r1, r2, r3, r4)) :
 Calls Try.prog 169 #[.agg #[.int .i64 a0_0, .slice A0_1 l0_1.length c0_1, .slice A0_2 l0_2.length c0_2, .slice A0_3 l0_3.length c0_3], .int .i64 a1] w fun e w' => ∃ v1_ v2_ v3_ : Value, e = .returned (.agg #[.int .i64 r1, v1_, v2_, v3_]) ∧ Kd.R (Kd.int .i64) 3 w' w.heap.size (fun k_ => some k_ ≠ (v2_ : Value).ownBlock ∧ some k_ ≠ (v3_ : Value).ownBlock) v1_ r2 ∧ Kd.R (Kd.int .i64) 3 w' w.heap.size (fun k_ => some k_ ≠ (v1_ : Value).ownBlock ∧ some k_ ≠ (v3_ : Value).ownBlock) v2_ r3 ∧ Kd.R (Kd.int .i64) 3 w' w.heap.size (fun k_ => some k_ ≠ (v1_ : Value).ownBlock ∧ some k_ ≠ (v2_ : Value).ownBlock) v3_ r4 ∧ Below w.heap.size w w' := by
 have hu26 := Try.underlying26
 have HR0_1 := Aside0.mk hr0_1
 have HC0_1 := Aside0.mk hc0_1
 clear hr0_1 hc0_1
 have HR0_2 := Aside0.mk hr0_2
 have HC0_2 := Aside0.mk hc0_2
 clear hr0_2 hc0_2
 have HR0_3 := Aside0.mk hr0_3
 have HC0_3 := Aside0.mk hc0_3
 clear hr0_3 hc0_3
 have HB := Aside0.mk (Below.refl w.heap.size w)
 have H : ((spec_l5At.f k a0_0 l0_1 l0_2 l0_3 a1).bind fun t1396 => (if t1396 < 0 then (spec_GroupLeave.j0 k t1396 true a0_0 l0_1 l0_2 l0_3) else ((spec_l1In.f a1 0 3).bind fun t1397 => (spec_GroupLeave.j0 k t1396 (!t1397) a0_0 l0_1 l0_2 l0_3)))) = some (r1, r2, r3, r4) := h
 clear h
 replace H := Option.bind_eq_some_iff.mp H
 obtain ⟨t1396, A30, H⟩ := H
 replace H : (if t1396 < 0 then (spec_GroupLeave.j0 k t1396 true a0_0 l0_1 l0_2 l0_3) else ((spec_l1In.f a1 0 3).bind fun t1397 => (spec_GroupLeave.j0 k t1396 (!t1397) a0_0 l0_1 l0_2 l0_3))) = some (r1, r2, r3, r4) := H
 have A3 := Aside0.mk A30
 clear A30
 have HC4 := Aside0.mk H
 clear H
 go_enter Try.func169, Try.ntmps169
 go_upto_region 2 with (first | ((with_reducible refine gate_dst (N := 2) rfl ?_); refine box_event ?hg (N := 2) ?hd (cs := #[.int .i64 a0_0, .slice A0_1 l0_1.length c0_1, .slice A0_2 l0_2.length c0_2, .slice A0_3 l0_3.length c0_3]) (t := 26) ?hr ?_; (case hd => rfl); (case hg => rfl); (case hr => first | (go_simp; done) | (go_simp; rfl)); intro gb1394 hg w5 hbox hb; have n0_ := Aside0.mk (below_step (hb_ HB.out) hb); have n1_ := Aside0.mk (hbox); have n2_ := Aside0.mk ((by rw [hg]; exact (below_size (hb_ HB.out)) : w.heap.size ≤ gb1394)); have n3_ := Aside0.mk ((by rw [hg]; exact (below_size (hb_ HB.out)) : w.heap.size ≤ gb1394)); clear HB; have HB := n0_; have BK1394 := n1_; have GW1394 := n2_; have GE1394 := n3_; clear n0_ n1_ n2_ n3_; clear hb hbox hg) | ((with_reducible refine gate_dst (N := 4) rfl ?_); refine box_event ?hg (N := 4) ?hd (cs := #[.int .i64 0, .slice none 0 0, .slice none 0 0, .slice none 0 0]) (t := 26) ?hr ?_; (case hd => rfl); (case hg => rfl); (case hr => first | (go_simp; done) | (go_simp; rfl)); intro gb1395 hg w6 hbox hb; have n0_ := Aside0.mk (bb_ BK1394.out hb); have n1_ := Aside0.mk (below_step (hb_ HB.out) hb); have n2_ := Aside0.mk (hbox); have n3_ := Aside0.mk ((by rw [hg]; exact (below_size (hb_ HB.out)) : w.heap.size ≤ gb1395)); have n4_ := Aside0.mk ((by rw [hg]; exact (below_size (hb_ HB.out)) : w.heap.size ≤ gb1395)); have n5_ := Aside0.mk ((nl_ BK1394.out hg : gb1394 ≠ gb1395)); have n6_ := Aside0.mk ((ng_ BK1394.out hg : gb1395 ≠ gb1394)); clear BK1394; clear HB; have BK1394 := n0_; have HB := n1_; have BK1395 := n2_; have GW1395 := n3_; have GE1395 := n4_; have NB1394_1395 := n5_; have NB1395_1394 := n6_; clear n0_ n1_ n2_ n3_ n4_ n5_ n6_; clear hb hbox hg; have hnb7 := NB1394_1395.out; have hnc7 := NB1395_1394.out; have hcz8_0 : w6.cell? ⟨gb1394, 0, none⟩ = some (.int .i64 a0_0) := (blk_cell BK1394.out 0).trans rfl; have hcz8_1 : w6.cell? ⟨gb1394, 1, none⟩ = some (.slice A0_1 l0_1.length c0_1) := (blk_cell BK1394.out 1).trans rfl; have hcz8_2 : w6.cell? ⟨gb1394, 2, none⟩ = some (.slice A0_2 l0_2.length c0_2) := (blk_cell BK1394.out 2).trans rfl; have hcz8_3 : w6.cell? ⟨gb1394, 3, none⟩ = some (.slice A0_3 l0_3.length c0_3) := (blk_cell BK1394.out 3).trans rfl; have hfz8_0 := blk_frozen BK1394.out 0; have hfz8_1 := blk_frozen BK1394.out 1; have hfz8_2 := blk_frozen BK1394.out 2; have hfz8_3 := blk_frozen BK1394.out 3) | ((with_reducible refine gate_callee (f := 176) rfl ?_); refine goesL_ (some 9) rfl rfl Try.func176 (by kernel_rfl) rfl #[.agg #[.int .i64 a0_0, .slice A0_1 l0_1.length c0_1, .slice A0_2 l0_2.length c0_2, .slice A0_3 l0_3.length c0_3], .int .i64 a1] rfl sm_ ?_; (with_reducible refine (spec_l5At.calls k a0_0 _ _ l0_1 _ _ l0_2 _ _ l0_3 a1 t1396 _ ?side1 ?side2 ?side3 ?side4 ?side5 ?side6 A3.out).mono ?_); (case side1 => repeat (first | exact (Kd.C_below HR0_1.out HB.out) | (with_reducible refine Kd.C_alloc ?_ _) | (with_reducible refine Kd.C_drewN ?_ _) | (with_reducible refine Kd.C_drew ?_))); (case side2 => exact HC0_1.out); (case side3 => repeat (first | exact (Kd.C_below HR0_2.out HB.out) | (with_reducible refine Kd.C_alloc ?_ _) | (with_reducible refine Kd.C_drewN ?_ _) | (with_reducible refine Kd.C_drew ?_))); (case side4 => exact HC0_2.out); (case side5 => repeat (first | exact (Kd.C_below HR0_3.out HB.out) | (with_reducible refine Kd.C_alloc ?_ _) | (with_reducible refine Kd.C_drewN ?_ _) | (with_reducible refine Kd.C_drew ?_))); (case side6 => exact HC0_3.out); rintro e w9 ⟨rfl, hb⟩; refine ⟨_, rfl, ?_⟩; have n0_ := Aside0.mk (bb_ BK1394.out hb); have n1_ := Aside0.mk (bb_ BK1395.out hb); have n2_ := Aside0.mk (below_step (hb_ HB.out) hb); clear BK1394; clear BK1395; clear HB; have BK1394 := n0_; have BK1395 := n1_; have HB := n2_; clear n0_ n1_ n2_; (try clear hb); (try clear hb2); (try clear hk); (try clear hi)))
 (try simp only [Act.put, List.setIfInBounds_toArray, List.set_cons_zero, List.set_cons_succ])
 go_cut [16] (fun v16 wc => ∃ (kq : Nat) (x16_3 : Bool), v16 = .bool x16_3 ∧ Aside0 (spec_GroupLeave.j0 kq t1396 x16_3 a0_0 l0_1 l0_2 l0_3 = some (r1, r2, r3, r4)) ∧ Aside0 (kq ≤ k) ∧ Aside0 (wc.heap[gb1394]? = some (.cells #[.int .i64 a0_0, (.slice A0_1 l0_1.length c0_1), (.slice A0_2 l0_2.length c0_2), (.slice A0_3 l0_3.length c0_3)] 26 (0, 0))) ∧ Aside0 (wc.heap[gb1395]? = some (.cells #[.int .i64 0, (.slice none 0 0), (.slice none 0 0), (.slice none 0 0)] 26 (0, 0))) ∧ Aside0 (Below w.heap.size w wc))
 case first =>
  have H := HC4.out
  clear HC4
  by_cases c10 : t1396 < 0
  ·
   rw [if_pos c10] at H
   have c10b0 : decide (t1396 < 0) = true := decide_eq_true c10
   clear c10
   (first | rw [c10b0] | (simp only [i64_w, i32_w]; rw [c10b0]) | rw [c10b4] | rw [c10b3] | skip)
   have H' := Aside0.mk H
   clear H
   go_wp2
   go_meet
   case rel => exact ⟨_, (true), (by first | rfl | (simp; done) | (simp [*]; done)), H', ⟨by first | omega | exact Nat.le_refl _⟩, ⟨bq_ BK1394.out⟩, ⟨bq_ BK1395.out⟩, ⟨hb_ HB.out⟩⟩
  ·
   rw [if_neg c10] at H
   have c10b0 : decide (t1396 < 0) = false := decide_eq_false c10
   clear c10
   (first | rw [c10b0] | (simp only [i64_w, i32_w]; rw [c10b0]) | rw [c10b4] | rw [c10b3] | skip)
   replace H := Option.bind_eq_some_iff.mp H
   obtain ⟨t1397, A110, H⟩ := H
   replace H : (spec_GroupLeave.j0 k t1396 (!t1397) a0_0 l0_1 l0_2 l0_3) = some (r1, r2, r3, r4) := H
   have A11 := Aside0.mk A110
   clear A110
   have H' := Aside0.mk H
   clear H
   go_wp2_with (first | (go_at_call 84; (with_reducible refine (spec_l1In.calls a1 0 3 t1397 _ A11.out).mono ?_); rintro e w' ⟨rfl, ⟨nd, rfl⟩⟩))
   go_meet
   case rel => exact ⟨_, (!t1397), (by first | rfl | (simp; done) | (simp [*]; done)), H', ⟨by first | omega | exact Nat.le_refl _⟩, ⟨bq_ BK1394.out⟩, ⟨bq_ BK1395.out⟩, ⟨hb_ HB.out⟩⟩
 case rest =>
  clear HC4
  (try clear c1); (try clear p2); (try clear c7); (try clear c10); (try clear c10b0); (try clear hcz8_0); (try clear hcz8_1); (try clear hcz8_2); (try clear hcz8_3); (try clear hfz8_0); (try clear hfz8_1); (try clear hfz8_2); (try clear hfz8_3)
  obtain ⟨kq, x16_3, rfl, HA, HJ3, BK1394, BK1395, HB⟩ := hcut
  cases kq with
  | zero => exact absurd HA.out (by simp [spec_GroupLeave.j0])
  | succ kj3 =>
   have H := HA.out
   clear HA
   simp only [spec_GroupLeave.j0] at H
   by_cases c12 : x16_3 = true
   ·
    subst c12
    have H1 : ((spec_l5Copy.f a0_0 l0_1 l0_2 l0_3).bind fun bt1398 => (some (bt1398.1, bt1398.2.1, bt1398.2.2.1, bt1398.2.2.2))) = some (r1, r2, r3, r4) := by rw [if_pos rfl] at H; exact H
    clear H
    have H := H1
    clear H1
    replace H := Option.bind_eq_some_iff.mp H
    obtain ⟨⟨t1398, t1399, t1402, t1405⟩, A130, H⟩ := H
    replace H : (some (t1398, t1399, t1402, t1405)) = some (r1, r2, r3, r4) := H
    have A13 := Aside0.mk A130
    clear A130
    simp only [Option.some.injEq, Prod.mk.injEq] at H
    obtain ⟨rfl, rfl, rfl, rfl⟩ := H
    have hnb14 := NB1394_1395.out
    have hnc14 := NB1395_1394.out
    have hcz15_0 : wc.cell? ⟨gb1394, 0, none⟩ = some (.int .i64 a0_0) := (blk_cell BK1394.out 0).trans rfl
    have hcz15_1 : wc.cell? ⟨gb1394, 1, none⟩ = some (.slice A0_1 l0_1.length c0_1) := (blk_cell BK1394.out 1).trans rfl
    have hcz15_2 : wc.cell? ⟨gb1394, 2, none⟩ = some (.slice A0_2 l0_2.length c0_2) := (blk_cell BK1394.out 2).trans rfl
    have hcz15_3 : wc.cell? ⟨gb1394, 3, none⟩ = some (.slice A0_3 l0_3.length c0_3) := (blk_cell BK1394.out 3).trans rfl
    have hfz15_0 := blk_frozen BK1394.out 0
    have hfz15_1 := blk_frozen BK1394.out 1
    have hfz15_2 := blk_frozen BK1394.out 2
    have hfz15_3 := blk_frozen BK1394.out 3
    go_wp2_with (first | ((with_reducible refine gate_callee (f := 83) rfl ?_); refine goesL_ (some 18) rfl rfl Try.func83 (by kernel_rfl) rfl #[.agg #[.int .i64 a0_0, .slice A0_1 l0_1.length c0_1, .slice A0_2 l0_2.length c0_2, .slice A0_3 l0_3.length c0_3]] rfl sm_ ?_; (with_reducible refine (spec_l5Copy.calls a0_0 _ _ l0_1 _ _ l0_2 _ _ l0_3 t1398 t1399 t1402 t1405 _ ?side1 ?side2 ?side3 ?side4 ?side5 ?side6 A13.out).mono ?_); (case side1 => repeat (first | exact (Kd.C_below HR0_1.out HB.out) | (with_reducible refine Kd.C_alloc ?_ _) | (with_reducible refine Kd.C_drewN ?_ _) | (with_reducible refine Kd.C_drew ?_))); (case side2 => exact HC0_1.out); (case side3 => repeat (first | exact (Kd.C_below HR0_2.out HB.out) | (with_reducible refine Kd.C_alloc ?_ _) | (with_reducible refine Kd.C_drewN ?_ _) | (with_reducible refine Kd.C_drew ?_))); (case side4 => exact HC0_2.out); (case side5 => repeat (first | exact (Kd.C_below HR0_3.out HB.out) | (with_reducible refine Kd.C_alloc ?_ _) | (with_reducible refine Kd.C_drewN ?_ _) | (with_reducible refine Kd.C_drew ?_))); (case side6 => exact HC0_3.out); rintro e w16 ⟨v1400, v1403, v1406, rfl, ho0, ho1, ho2, hb⟩; refine ⟨_, rfl, ?_⟩; have n0_ := Aside0.mk (Kd.R_lower ho0 (below_size (hb_ HB.out))); have n1_ := Aside0.mk (Kd.R_lower ho1 (below_size (hb_ HB.out))); have n2_ := Aside0.mk (Kd.R_lower ho2 (below_size (hb_ HB.out))); have n3_ := Aside0.mk (bb_ BK1394.out hb); have n4_ := Aside0.mk (bb_ BK1395.out hb); have n5_ := Aside0.mk (below_step (hb_ HB.out) hb); clear BK1394; clear BK1395; clear HB; have HO1401 := n0_; have HO1404 := n1_; have HO1407 := n2_; have BK1394 := n3_; have BK1395 := n4_; have HB := n5_; clear n0_ n1_ n2_ n3_ n4_ n5_; (try clear hb); (try clear hb2); (try clear hk); (try clear hi); (try clear ho0); (try clear ho1); (try clear ho2); have hcz17_0 : w16.cell? ⟨gb1395, 0, none⟩ = some (.int .i64 0) := (blk_cell BK1395.out 0).trans rfl; have hcz17_1 : w16.cell? ⟨gb1395, 1, none⟩ = some (.slice none 0 0) := (blk_cell BK1395.out 1).trans rfl; have hcz17_2 : w16.cell? ⟨gb1395, 2, none⟩ = some (.slice none 0 0) := (blk_cell BK1395.out 2).trans rfl; have hcz17_3 : w16.cell? ⟨gb1395, 3, none⟩ = some (.slice none 0 0) := (blk_cell BK1395.out 3).trans rfl; have hfz17_0 := blk_frozen BK1395.out 0; have hfz17_1 := blk_frozen BK1395.out 1; have hfz17_2 := blk_frozen BK1395.out 2; have hfz17_3 := blk_frozen BK1395.out 3; obtain ⟨Ao18, co18, eo18⟩ := Kd.R_slice HO1401.out; subst eo18; obtain ⟨Ao19, co19, eo19⟩ := Kd.R_slice HO1404.out; subst eo19; obtain ⟨Ao20, co20, eo20⟩ := Kd.R_slice HO1407.out; subst eo20))
    refine bodyPost_ret (results_cell_row rfl _ _ gb1395 26 #[.int .i64 t1398, .slice Ao18 t1399.length co18, .slice Ao19 t1402.length co19, .slice Ao20 t1405.length co20] (0, 0) _ rfl (bp_ BK1395.out) Try.underlying26 rfl (by kernel_rfl)) rfl ?_
    exact ⟨_, _, _, er_, by (with_reducible repeat (first | apply Kd.R_alloc | apply Kd.R_drewN | apply Kd.R_drew)); exact Kd.R_mono (Kd.R_far (p := ⟨gb1395, 3, none⟩) (Kd.R_far (p := ⟨gb1395, 2, none⟩) (Kd.R_far (p := ⟨gb1395, 1, none⟩) (Kd.R_far (p := ⟨gb1395, 0, none⟩) (Kd.R_types HO1401.out BK1395.out (by decide)) (fun _ hk => hk.2) (.int .i64 t1398)) (fun _ hk => hk.2) (.slice Ao18 t1399.length co18)) (fun _ hk => hk.2) (.slice Ao19 t1402.length co19)) (fun _ hk => hk.2) (.slice Ao20 t1405.length co20)) (fun _ hk => ⟨hk.1.1, hk.1.2⟩), by (with_reducible repeat (first | apply Kd.R_alloc | apply Kd.R_drewN | apply Kd.R_drew)); exact Kd.R_mono (Kd.R_far (p := ⟨gb1395, 3, none⟩) (Kd.R_far (p := ⟨gb1395, 2, none⟩) (Kd.R_far (p := ⟨gb1395, 1, none⟩) (Kd.R_far (p := ⟨gb1395, 0, none⟩) (Kd.R_types HO1404.out BK1395.out (by decide)) (fun _ hk => hk.2) (.int .i64 t1398)) (fun _ hk => hk.2) (.slice Ao18 t1399.length co18)) (fun _ hk => hk.2) (.slice Ao19 t1402.length co19)) (fun _ hk => hk.2) (.slice Ao20 t1405.length co20)) (fun _ hk => ⟨hk.1.1, hk.1.2⟩), by (with_reducible repeat (first | apply Kd.R_alloc | apply Kd.R_drewN | apply Kd.R_drew)); exact Kd.R_mono (Kd.R_far (p := ⟨gb1395, 3, none⟩) (Kd.R_far (p := ⟨gb1395, 2, none⟩) (Kd.R_far (p := ⟨gb1395, 1, none⟩) (Kd.R_far (p := ⟨gb1395, 0, none⟩) (Kd.R_types HO1407.out BK1395.out (by decide)) (fun _ hk => hk.2) (.int .i64 t1398)) (fun _ hk => hk.2) (.slice Ao18 t1399.length co18)) (fun _ hk => hk.2) (.slice Ao19 t1402.length co19)) (fun _ hk => hk.2) (.slice Ao20 t1405.length co20)) (fun _ hk => ⟨hk.1.1, hk.1.2⟩), hb_ HB.out⟩
   ·
    replace c12 := Bool.eq_false_iff.mpr c12
    subst c12
    have H1 : ((spec_l5Without.f a0_0 l0_1 l0_2 l0_3 t1396).bind fun bt1408 => ((spec_l5Up.f a0_0).bind fun t1419 => (some (t1419, bt1408.2.1, bt1408.2.2.1, bt1408.2.2.2)))) = some (r1, r2, r3, r4) := by rw [if_neg (show ¬ (false = true) by decide)] at H; exact H
    clear H
    have H := H1
    clear H1
    replace H := Option.bind_eq_some_iff.mp H
    obtain ⟨⟨t1408, t1409, t1412, t1415⟩, A210, H⟩ := H
    replace H : ((spec_l5Up.f a0_0).bind fun t1419 => (some (t1419, t1409, t1412, t1415))) = some (r1, r2, r3, r4) := H
    have A21 := Aside0.mk A210
    clear A210
    replace H := Option.bind_eq_some_iff.mp H
    obtain ⟨t1419, A220, H⟩ := H
    replace H : (some (t1419, t1409, t1412, t1415)) = some (r1, r2, r3, r4) := H
    have A22 := Aside0.mk A220
    clear A220
    simp only [Option.some.injEq, Prod.mk.injEq] at H
    obtain ⟨rfl, rfl, rfl, rfl⟩ := H
    have hnb23 := NB1394_1395.out
    have hnc23 := NB1395_1394.out
    have hcz24_0 : wc.cell? ⟨gb1394, 0, none⟩ = some (.int .i64 a0_0) := (blk_cell BK1394.out 0).trans rfl
    have hcz24_1 : wc.cell? ⟨gb1394, 1, none⟩ = some (.slice A0_1 l0_1.length c0_1) := (blk_cell BK1394.out 1).trans rfl
    have hcz24_2 : wc.cell? ⟨gb1394, 2, none⟩ = some (.slice A0_2 l0_2.length c0_2) := (blk_cell BK1394.out 2).trans rfl
    have hcz24_3 : wc.cell? ⟨gb1394, 3, none⟩ = some (.slice A0_3 l0_3.length c0_3) := (blk_cell BK1394.out 3).trans rfl
    have hfz24_0 := blk_frozen BK1394.out 0
    have hfz24_1 := blk_frozen BK1394.out 1
    have hfz24_2 := blk_frozen BK1394.out 2
    have hfz24_3 := blk_frozen BK1394.out 3
    go_wp2_with (first | ((with_reducible refine gate_callee (f := 177) rfl ?_); refine goesL_ (some 21) rfl rfl Try.func177 (by kernel_rfl) rfl #[.agg #[.int .i64 a0_0, .slice A0_1 l0_1.length c0_1, .slice A0_2 l0_2.length c0_2, .slice A0_3 l0_3.length c0_3], .int .i64 t1396] rfl sm_ ?_; (with_reducible refine (spec_l5Without.calls a0_0 _ _ l0_1 _ _ l0_2 _ _ l0_3 t1396 t1408 t1409 t1412 t1415 _ ?side1 ?side2 ?side3 ?side4 ?side5 ?side6 A21.out).mono ?_); (case side1 => repeat (first | exact (Kd.C_below HR0_1.out HB.out) | (with_reducible refine Kd.C_alloc ?_ _) | (with_reducible refine Kd.C_drewN ?_ _) | (with_reducible refine Kd.C_drew ?_))); (case side2 => exact HC0_1.out); (case side3 => repeat (first | exact (Kd.C_below HR0_2.out HB.out) | (with_reducible refine Kd.C_alloc ?_ _) | (with_reducible refine Kd.C_drewN ?_ _) | (with_reducible refine Kd.C_drew ?_))); (case side4 => exact HC0_2.out); (case side5 => repeat (first | exact (Kd.C_below HR0_3.out HB.out) | (with_reducible refine Kd.C_alloc ?_ _) | (with_reducible refine Kd.C_drewN ?_ _) | (with_reducible refine Kd.C_drew ?_))); (case side6 => exact HC0_3.out); rintro e w25 ⟨v1410, v1413, v1416, rfl, ho0, ho1, ho2, hb⟩; refine ⟨_, rfl, ?_⟩; have n0_ := Aside0.mk (Kd.R_lower ho0 (below_size (hb_ HB.out))); have n1_ := Aside0.mk (Kd.R_lower ho1 (below_size (hb_ HB.out))); have n2_ := Aside0.mk (Kd.R_lower ho2 (below_size (hb_ HB.out))); have n3_ := Aside0.mk (bb_ BK1394.out hb); have n4_ := Aside0.mk (bb_ BK1395.out hb); have n5_ := Aside0.mk (below_step (hb_ HB.out) hb); clear BK1394; clear BK1395; clear HB; have HO1411 := n0_; have HO1414 := n1_; have HO1417 := n2_; have BK1394 := n3_; have BK1395 := n4_; have HB := n5_; clear n0_ n1_ n2_ n3_ n4_ n5_; (try clear hb); (try clear hb2); (try clear hk); (try clear hi); (try clear ho0); (try clear ho1); (try clear ho2)) | ((with_reducible refine gate_dst (N := 6) rfl ?_); refine box_event ?hg (N := 6) ?hd (cs := #[.int .i64 0, .slice none 0 0, .slice none 0 0, .slice none 0 0]) (t := 26) ?hr ?_; (case hd => rfl); (case hg => rfl); (case hr => first | (go_simp; done) | (go_simp; rfl)); intro gb1418 hg w26 hbox hb; have n0_ := Aside0.mk (Kd.R_below (rq_ HO1411.out) hb); have n1_ := Aside0.mk (Kd.R_below (rq_ HO1414.out) hb); have n2_ := Aside0.mk (Kd.R_below (rq_ HO1417.out) hb); have n3_ := Aside0.mk (bb_ BK1394.out hb); have n4_ := Aside0.mk (bb_ BK1395.out hb); have n5_ := Aside0.mk (below_step (hb_ HB.out) hb); have n6_ := Aside0.mk (hbox); have n7_ := Aside0.mk ((by rw [hg]; exact (below_size (hb_ HB.out)) : w.heap.size ≤ gb1418)); have n8_ := Aside0.mk ((by rw [hg]; exact (below_size (hb_ HB.out)) : w.heap.size ≤ gb1418)); have n9_ := Aside0.mk ((nl_ BK1394.out hg : gb1394 ≠ gb1418)); have n10_ := Aside0.mk ((ng_ BK1394.out hg : gb1418 ≠ gb1394)); have n11_ := Aside0.mk ((nl_ BK1395.out hg : gb1395 ≠ gb1418)); have n12_ := Aside0.mk ((ng_ BK1395.out hg : gb1418 ≠ gb1395)); clear HO1411; clear HO1414; clear HO1417; clear BK1394; clear BK1395; clear HB; have HO1411 := n0_; have HO1414 := n1_; have HO1417 := n2_; have BK1394 := n3_; have BK1395 := n4_; have HB := n5_; have BK1418 := n6_; have GW1418 := n7_; have GE1418 := n8_; have NB1394_1418 := n9_; have NB1418_1394 := n10_; have NB1395_1418 := n11_; have NB1418_1395 := n12_; clear n0_ n1_ n2_ n3_ n4_ n5_ n6_ n7_ n8_ n9_ n10_ n11_ n12_; clear hb hbox hg; have hnb27 := NB1418_1394.out; have hnc27 := NB1394_1418.out; have hnb28 := NB1418_1395.out; have hnc28 := NB1395_1418.out; have hcz29_0 : w26.cell? ⟨gb1418, 0, none⟩ = some (.int .i64 0) := (blk_cell BK1418.out 0).trans rfl; have hcz29_1 : w26.cell? ⟨gb1418, 1, none⟩ = some (.slice none 0 0) := (blk_cell BK1418.out 1).trans rfl; have hcz29_2 : w26.cell? ⟨gb1418, 2, none⟩ = some (.slice none 0 0) := (blk_cell BK1418.out 2).trans rfl; have hcz29_3 : w26.cell? ⟨gb1418, 3, none⟩ = some (.slice none 0 0) := (blk_cell BK1418.out 3).trans rfl; have hfz29_0 := blk_frozen BK1418.out 0; have hfz29_1 := blk_frozen BK1418.out 1; have hfz29_2 := blk_frozen BK1418.out 2; have hfz29_3 := blk_frozen BK1418.out 3; obtain ⟨Ao30, co30, eo30⟩ := Kd.R_slice HO1411.out; subst eo30; obtain ⟨Ao31, co31, eo31⟩ := Kd.R_slice HO1414.out; subst eo31; obtain ⟨Ao32, co32, eo32⟩ := Kd.R_slice HO1417.out; subst eo32; have hcz33_0 : w26.cell? ⟨gb1394, 0, none⟩ = some (.int .i64 a0_0) := (blk_cell BK1394.out 0).trans rfl; have hcz33_1 : w26.cell? ⟨gb1394, 1, none⟩ = some (.slice A0_1 l0_1.length c0_1) := (blk_cell BK1394.out 1).trans rfl; have hcz33_2 : w26.cell? ⟨gb1394, 2, none⟩ = some (.slice A0_2 l0_2.length c0_2) := (blk_cell BK1394.out 2).trans rfl; have hcz33_3 : w26.cell? ⟨gb1394, 3, none⟩ = some (.slice A0_3 l0_3.length c0_3) := (blk_cell BK1394.out 3).trans rfl; have hfz33_0 := blk_frozen BK1394.out 0; have hfz33_1 := blk_frozen BK1394.out 1; have hfz33_2 := blk_frozen BK1394.out 2; have hfz33_3 := blk_frozen BK1394.out 3) | ((with_reducible refine gate_callee (f := 178) rfl ?_); refine goesL_ (some 24) rfl rfl Try.func178 (by kernel_rfl) rfl #[.int .i64 a0_0] rfl sm_ ?_; (with_reducible refine (spec_l5Up.calls a0_0 t1419 _ A22.out).mono ?_); rintro e w' ⟨rfl, ⟨nd, rfl⟩⟩; refine ⟨_, rfl, ?_⟩; have hcz34_0 : w26.cell? ⟨gb1395, 0, none⟩ = some (.int .i64 0) := (blk_cell BK1395.out 0).trans rfl; have hcz34_1 : w26.cell? ⟨gb1395, 1, none⟩ = some (.slice none 0 0) := (blk_cell BK1395.out 1).trans rfl; have hcz34_2 : w26.cell? ⟨gb1395, 2, none⟩ = some (.slice none 0 0) := (blk_cell BK1395.out 2).trans rfl; have hcz34_3 : w26.cell? ⟨gb1395, 3, none⟩ = some (.slice none 0 0) := (blk_cell BK1395.out 3).trans rfl; have hfz34_0 := blk_frozen BK1395.out 0; have hfz34_1 := blk_frozen BK1395.out 1; have hfz34_2 := blk_frozen BK1395.out 2; have hfz34_3 := blk_frozen BK1395.out 3))
    refine bodyPost_ret (results_cell_row rfl _ _ gb1395 26 #[.int .i64 t1419, .slice Ao30 t1409.length co30, .slice Ao31 t1412.length co31, .slice Ao32 t1415.length co32] (0, 0) _ rfl (by (with_reducible repeat (first | refine blk_drewN ?_ _ | refine blk_drew ?_ | refine blk_alloc ?_ _)); refine blk_put (cs := #[.int .i64 t1419, .slice Ao30 t1409.length co30, .slice Ao31 t1412.length co31, .slice none 0 0]) ?_ 3 _ rfl; (with_reducible repeat (first | refine blk_drewN ?_ _ | refine blk_drew ?_ | refine blk_alloc ?_ _)); refine blk_put (cs := #[.int .i64 t1419, .slice Ao30 t1409.length co30, .slice none 0 0, .slice none 0 0]) ?_ 2 _ rfl; (with_reducible repeat (first | refine blk_drewN ?_ _ | refine blk_drew ?_ | refine blk_alloc ?_ _)); refine blk_put (cs := #[.int .i64 t1419, .slice none 0 0, .slice none 0 0, .slice none 0 0]) ?_ 1 _ rfl; (with_reducible repeat (first | refine blk_drewN ?_ _ | refine blk_drew ?_ | refine blk_alloc ?_ _)); refine blk_put (cs := #[.int .i64 0, .slice none 0 0, .slice none 0 0, .slice none 0 0]) ?_ 0 _ rfl; (with_reducible repeat (first | refine blk_drewN ?_ _ | refine blk_drew ?_ | refine blk_alloc ?_ _)); refine blk_far ?_ NB1395_1418.out _; (with_reducible repeat (first | refine blk_drewN ?_ _ | refine blk_drew ?_ | refine blk_alloc ?_ _)); refine blk_far ?_ NB1395_1418.out _; (with_reducible repeat (first | refine blk_drewN ?_ _ | refine blk_drew ?_ | refine blk_alloc ?_ _)); refine blk_far ?_ NB1395_1418.out _; (with_reducible repeat (first | refine blk_drewN ?_ _ | refine blk_drew ?_ | refine blk_alloc ?_ _)); refine blk_far ?_ NB1395_1418.out _; (with_reducible repeat (first | refine blk_drewN ?_ _ | refine blk_drew ?_ | refine blk_alloc ?_ _)); refine blk_far ?_ NB1395_1418.out _; (with_reducible repeat (first | refine blk_drewN ?_ _ | refine blk_drew ?_ | refine blk_alloc ?_ _)); exact BK1395.out) Try.underlying26 rfl (by kernel_rfl)) rfl ?_
    exact ⟨_, _, _, er_, by (with_reducible repeat (first | apply Kd.R_alloc | apply Kd.R_drewN | apply Kd.R_drew)); exact Kd.R_mono (Kd.R_far (p := ⟨gb1395, 3, none⟩) (Kd.R_far (p := ⟨gb1395, 2, none⟩) (Kd.R_far (p := ⟨gb1395, 1, none⟩) (Kd.R_far (p := ⟨gb1395, 0, none⟩) (Kd.R_far (p := ⟨gb1418, 0, none⟩) (Kd.R_far (p := ⟨gb1418, 3, none⟩) (Kd.R_far (p := ⟨gb1418, 2, none⟩) (Kd.R_far (p := ⟨gb1418, 1, none⟩) (Kd.R_far (p := ⟨gb1418, 0, none⟩) (Kd.R_types (Kd.R_types HO1411.out BK1418.out (by decide)) BK1395.out (by decide)) (fun _ hk => hk.1.2) (.int .i64 t1408)) (fun _ hk => hk.1.2) (.slice Ao30 t1409.length co30)) (fun _ hk => hk.1.2) (.slice Ao31 t1412.length co31)) (fun _ hk => hk.1.2) (.slice Ao32 t1415.length co32)) (fun _ hk => hk.1.2) (.int .i64 t1419)) (fun _ hk => hk.2) (.int .i64 t1419)) (fun _ hk => hk.2) (.slice Ao30 t1409.length co30)) (fun _ hk => hk.2) (.slice Ao31 t1412.length co31)) (fun _ hk => hk.2) (.slice Ao32 t1415.length co32)) (fun _ hk => ⟨hk.1.1.1, hk.1.1.2⟩), by (with_reducible repeat (first | apply Kd.R_alloc | apply Kd.R_drewN | apply Kd.R_drew)); exact Kd.R_mono (Kd.R_far (p := ⟨gb1395, 3, none⟩) (Kd.R_far (p := ⟨gb1395, 2, none⟩) (Kd.R_far (p := ⟨gb1395, 1, none⟩) (Kd.R_far (p := ⟨gb1395, 0, none⟩) (Kd.R_far (p := ⟨gb1418, 0, none⟩) (Kd.R_far (p := ⟨gb1418, 3, none⟩) (Kd.R_far (p := ⟨gb1418, 2, none⟩) (Kd.R_far (p := ⟨gb1418, 1, none⟩) (Kd.R_far (p := ⟨gb1418, 0, none⟩) (Kd.R_types (Kd.R_types HO1414.out BK1418.out (by decide)) BK1395.out (by decide)) (fun _ hk => hk.1.2) (.int .i64 t1408)) (fun _ hk => hk.1.2) (.slice Ao30 t1409.length co30)) (fun _ hk => hk.1.2) (.slice Ao31 t1412.length co31)) (fun _ hk => hk.1.2) (.slice Ao32 t1415.length co32)) (fun _ hk => hk.1.2) (.int .i64 t1419)) (fun _ hk => hk.2) (.int .i64 t1419)) (fun _ hk => hk.2) (.slice Ao30 t1409.length co30)) (fun _ hk => hk.2) (.slice Ao31 t1412.length co31)) (fun _ hk => hk.2) (.slice Ao32 t1415.length co32)) (fun _ hk => ⟨hk.1.1.1, hk.1.1.2⟩), by (with_reducible repeat (first | apply Kd.R_alloc | apply Kd.R_drewN | apply Kd.R_drew)); exact Kd.R_mono (Kd.R_far (p := ⟨gb1395, 3, none⟩) (Kd.R_far (p := ⟨gb1395, 2, none⟩) (Kd.R_far (p := ⟨gb1395, 1, none⟩) (Kd.R_far (p := ⟨gb1395, 0, none⟩) (Kd.R_far (p := ⟨gb1418, 0, none⟩) (Kd.R_far (p := ⟨gb1418, 3, none⟩) (Kd.R_far (p := ⟨gb1418, 2, none⟩) (Kd.R_far (p := ⟨gb1418, 1, none⟩) (Kd.R_far (p := ⟨gb1418, 0, none⟩) (Kd.R_types (Kd.R_types HO1417.out BK1418.out (by decide)) BK1395.out (by decide)) (fun _ hk => hk.1.2) (.int .i64 t1408)) (fun _ hk => hk.1.2) (.slice Ao30 t1409.length co30)) (fun _ hk => hk.1.2) (.slice Ao31 t1412.length co31)) (fun _ hk => hk.1.2) (.slice Ao32 t1415.length co32)) (fun _ hk => hk.1.2) (.int .i64 t1419)) (fun _ hk => hk.2) (.int .i64 t1419)) (fun _ hk => hk.2) (.slice Ao30 t1409.length co30)) (fun _ hk => hk.2) (.slice Ao31 t1412.length co31)) (fun _ hk => hk.2) (.slice Ao32 t1415.length co32)) (fun _ hk => ⟨hk.1.1.1, hk.1.1.2⟩), hb_ HB.out⟩
/-! ### spec_GroupTick: function 170 -/
def spec_GroupTick.l0 : Nat → Int → Bool → Int → Int → List Int → List Int → List Int → Int → List Int → List Int → List Int → Option (Int × List Int × List Int × List Int)
 | 0, _, _, _, _, _, _, _, _, _, _, _ => none
 | k + 1, x1, x6, x7, x1421000, x1421001, x1421002, x1421003, x1433000, x1433001, x1433002, x1433003 => if x7 ≥ 0 then (if x7 < (x1421002.length : Int) then (if 0 ≤ x7 then (if x1 > (rd x1421002 x7) then (if (wrap64 (x1 - (rd x1421002 x7))) > 50 then ((spec_l5Without.f x1433000 x1433001 x1433002 x1433003 x7).bind fun bt1435 => (spec_GroupTick.l0 k x1 true (wrap64 (x7 - 1)) x1421000 x1421001 x1421002 x1421003 bt1435.1 bt1435.2.1 bt1435.2.2.1 bt1435.2.2.2)) else (if (wrap64 (x1 - (rd x1421002 x7))) < 0 then ((spec_l5Without.f x1433000 x1433001 x1433002 x1433003 x7).bind fun bt1446 => (spec_GroupTick.l0 k x1 true (wrap64 (x7 - 1)) x1421000 x1421001 x1421002 x1421003 bt1446.1 bt1446.2.1 bt1446.2.2.1 bt1446.2.2.2)) else (spec_GroupTick.l0 k x1 x6 (wrap64 (x7 - 1)) x1421000 x1421001 x1421002 x1421003 x1433000 x1433001 x1433002 x1433003))) else (spec_GroupTick.l0 k x1 x6 (wrap64 (x7 - 1)) x1421000 x1421001 x1421002 x1421003 x1433000 x1433001 x1433002 x1433003)) else (none)) else (spec_GroupTick.l0 k x1 x6 (wrap64 (x7 - 1)) x1421000 x1421001 x1421002 x1421003 x1433000 x1433001 x1433002 x1433003)) else (if x6 = true then ((spec_l5Up.f x1421000).bind fun t1456 => (some (t1456, x1433001, x1433002, x1433003))) else (some (x1433000, x1433001, x1433002, x1433003)))
def spec_GroupTick.f (k : Nat) (a0_0 : Int) (l0_1 : List Int) (l0_2 : List Int) (l0_3 : List Int) (a1 : Int) : Option (Int × List Int × List Int × List Int) := (spec_l5Copy.f a0_0 l0_1 l0_2 l0_3).bind fun bt1422 => (spec_GroupTick.l0 k a1 false (wrap64 ((l0_1.length : Int) - 1)) a0_0 l0_1 l0_2 l0_3 bt1422.1 bt1422.2.1 bt1422.2.2.1 bt1422.2.2.2)
theorem spec_GroupTick.mono_l : ∀ k, (∀ y0 y1 y2 y3 y4 y5 y6 y7 y8 y9 y10, LeO (spec_GroupTick.l0 k y0 y1 y2 y3 y4 y5 y6 y7 y8 y9 y10) (spec_GroupTick.l0 (k + 1) y0 y1 y2 y3 y4 y5 y6 y7 y8 y9 y10))
 | 0 => fun _ _ _ _ _ _ _ _ _ _ _ r h => by simp [spec_GroupTick.l0] at h
 | k + 1 => by
  have ih0 := spec_GroupTick.mono_l k
  ·
   intro y0 y1 y2 y3 y4 y5 y6 y7 y8 y9 y10
   unfold spec_GroupTick.l0
   repeat' first
   | (with_reducible exact ih0 _ _ _ _ _ _ _ _ _ _ _)
   | (with_reducible exact LeO.refl _)
   | (with_reducible exact LeO.none _)
   | (with_reducible refine LeO.ite ?_ ?_)
   | (with_reducible refine LeO.bind ?_ (fun _ => ?_))
   | exact ih0 _ _ _ _ _ _ _ _ _ _ _
   | exact LeO.none _
   | refine LeO.ite ?_ ?_
   | refine LeO.bind ?_ (fun _ => ?_)
theorem spec_GroupTick.mono : ∀ a0 a1 a2 a3 a4 k, LeO (spec_GroupTick.f k a0 a1 a2 a3 a4) (spec_GroupTick.f (k + 1) a0 a1 a2 a3 a4) := by
 intro a0 a1 a2 a3 a4 k
 have ih0 := spec_GroupTick.mono_l k
 unfold spec_GroupTick.f
 repeat' first
  | (with_reducible exact ih0 _ _ _ _ _ _ _ _ _ _ _)
  | (with_reducible exact LeO.refl _)
  | (with_reducible exact LeO.none _)
  | (with_reducible refine LeO.ite ?_ ?_)
  | (with_reducible refine LeO.bind ?_ (fun _ => ?_))
  | exact ih0 _ _ _ _ _ _ _ _ _ _ _
  | exact LeO.none _
  | refine LeO.ite ?_ ?_
  | refine LeO.bind ?_ (fun _ => ?_)
set_option maxHeartbeats 8000000 in
set_option maxRecDepth 100000 in
theorem spec_GroupTick.calls (k : Nat) (a0_0 : Int) (A0_1 : Option Addr) (c0_1 : Nat) (l0_1 : List Int) (A0_2 : Option Addr) (c0_2 : Nat) (l0_2 : List Int) (A0_3 : Option Addr) (c0_3 : Nat) (l0_3 : List Int) (a1 : Int) (r1 : Int) (r2 : List Int) (r3 : List Int) (r4 : List Int) (w : World) (hr0_1 : Kd.C (Kd.int .i64) w A0_1 l0_1.length l0_1) (hc0_1 : l0_1.length ≤ c0_1) (hr0_2 : Kd.C (Kd.int .i64) w A0_2 l0_2.length l0_2) (hc0_2 : l0_2.length ≤ c0_2) (hr0_3 : Kd.C (Kd.int .i64) w A0_3 l0_3.length l0_3) (hc0_3 : l0_3.length ≤ c0_3) (h : spec_GroupTick.f k a0_0 l0_1 l0_2 l0_3 a1 = some (r1, r2, r3, r4)) :
 Calls Try.prog 170 #[.agg #[.int .i64 a0_0, .slice A0_1 l0_1.length c0_1, .slice A0_2 l0_2.length c0_2, .slice A0_3 l0_3.length c0_3], .int .i64 a1] w fun e w' => ∃ v1_ v2_ v3_ : Value, e = .returned (.agg #[.int .i64 r1, v1_, v2_, v3_]) ∧ Kd.R (Kd.int .i64) 3 w' w.heap.size (fun k_ => some k_ ≠ (v2_ : Value).ownBlock ∧ some k_ ≠ (v3_ : Value).ownBlock) v1_ r2 ∧ Kd.R (Kd.int .i64) 3 w' w.heap.size (fun k_ => some k_ ≠ (v1_ : Value).ownBlock ∧ some k_ ≠ (v3_ : Value).ownBlock) v2_ r3 ∧ Kd.R (Kd.int .i64) 3 w' w.heap.size (fun k_ => some k_ ≠ (v1_ : Value).ownBlock ∧ some k_ ≠ (v2_ : Value).ownBlock) v3_ r4 ∧ Below w.heap.size w w' := by
 have hu26 := Try.underlying26
 have HR0_1 := Aside0.mk hr0_1
 have HC0_1 := Aside0.mk hc0_1
 clear hr0_1 hc0_1
 have HR0_2 := Aside0.mk hr0_2
 have HC0_2 := Aside0.mk hc0_2
 clear hr0_2 hc0_2
 have HR0_3 := Aside0.mk hr0_3
 have HC0_3 := Aside0.mk hc0_3
 clear hr0_3 hc0_3
 have HB := Aside0.mk (Below.refl w.heap.size w)
 have H : ((spec_l5Copy.f a0_0 l0_1 l0_2 l0_3).bind fun bt1422 => (spec_GroupTick.l0 k a1 false (wrap64 ((l0_1.length : Int) - 1)) a0_0 l0_1 l0_2 l0_3 bt1422.1 bt1422.2.1 bt1422.2.2.1 bt1422.2.2.2)) = some (r1, r2, r3, r4) := h
 clear h
 replace H := Option.bind_eq_some_iff.mp H
 obtain ⟨⟨t1422, t1423, t1426, t1429⟩, A30, H⟩ := H
 replace H : (spec_GroupTick.l0 k a1 false (wrap64 ((l0_1.length : Int) - 1)) a0_0 l0_1 l0_2 l0_3 t1422 t1423 t1426 t1429) = some (r1, r2, r3, r4) := H
 have A3 := Aside0.mk A30
 clear A30
 have H' := Aside0.mk H
 clear H
 go_enter Try.func170, Try.ntmps170
 go_wp2_with (first | ((with_reducible refine gate_dst (N := 2) rfl ?_); refine box_event ?hg (N := 2) ?hd (cs := #[.int .i64 a0_0, .slice A0_1 l0_1.length c0_1, .slice A0_2 l0_2.length c0_2, .slice A0_3 l0_3.length c0_3]) (t := 26) ?hr ?_; (case hd => rfl); (case hg => rfl); (case hr => first | (go_simp; done) | (go_simp; rfl)); intro gb1420 hg w4 hbox hb; have n0_ := Aside0.mk (below_step (hb_ HB.out) hb); have n1_ := Aside0.mk (hbox); have n2_ := Aside0.mk ((by rw [hg]; exact (below_size (hb_ HB.out)) : w.heap.size ≤ gb1420)); have n3_ := Aside0.mk ((by rw [hg]; exact (below_size (hb_ HB.out)) : w.heap.size ≤ gb1420)); clear HB; have HB := n0_; have BK1420 := n1_; have GW1420 := n2_; have GE1420 := n3_; clear n0_ n1_ n2_ n3_; clear hb hbox hg) | ((with_reducible refine gate_dst (N := 4) rfl ?_); refine box_event ?hg (N := 4) ?hd (cs := #[.int .i64 0, .slice none 0 0, .slice none 0 0, .slice none 0 0]) (t := 26) ?hr ?_; (case hd => rfl); (case hg => rfl); (case hr => first | (go_simp; done) | (go_simp; rfl)); intro gb1421 hg w5 hbox hb; have n0_ := Aside0.mk (bb_ BK1420.out hb); have n1_ := Aside0.mk (below_step (hb_ HB.out) hb); have n2_ := Aside0.mk (hbox); have n3_ := Aside0.mk ((by rw [hg]; exact (below_size (hb_ HB.out)) : w.heap.size ≤ gb1421)); have n4_ := Aside0.mk ((by rw [hg]; exact (below_size (hb_ HB.out)) : w.heap.size ≤ gb1421)); have n5_ := Aside0.mk ((nl_ BK1420.out hg : gb1420 ≠ gb1421)); have n6_ := Aside0.mk ((ng_ BK1420.out hg : gb1421 ≠ gb1420)); clear BK1420; clear HB; have BK1420 := n0_; have HB := n1_; have BK1421 := n2_; have GW1421 := n3_; have GE1421 := n4_; have NB1420_1421 := n5_; have NB1421_1420 := n6_; clear n0_ n1_ n2_ n3_ n4_ n5_ n6_; clear hb hbox hg; have hnb6 := NB1420_1421.out; have hnc6 := NB1421_1420.out; have hcz7_0 : w5.cell? ⟨gb1420, 0, none⟩ = some (.int .i64 a0_0) := (blk_cell BK1420.out 0).trans rfl; have hcz7_1 : w5.cell? ⟨gb1420, 1, none⟩ = some (.slice A0_1 l0_1.length c0_1) := (blk_cell BK1420.out 1).trans rfl; have hcz7_2 : w5.cell? ⟨gb1420, 2, none⟩ = some (.slice A0_2 l0_2.length c0_2) := (blk_cell BK1420.out 2).trans rfl; have hcz7_3 : w5.cell? ⟨gb1420, 3, none⟩ = some (.slice A0_3 l0_3.length c0_3) := (blk_cell BK1420.out 3).trans rfl; have hfz7_0 := blk_frozen BK1420.out 0; have hfz7_1 := blk_frozen BK1420.out 1; have hfz7_2 := blk_frozen BK1420.out 2; have hfz7_3 := blk_frozen BK1420.out 3) | ((with_reducible refine gate_callee (f := 83) rfl ?_); refine goesL_ (some 9) rfl rfl Try.func83 (by kernel_rfl) rfl #[.agg #[.int .i64 a0_0, .slice A0_1 l0_1.length c0_1, .slice A0_2 l0_2.length c0_2, .slice A0_3 l0_3.length c0_3]] rfl sm_ ?_; (with_reducible refine (spec_l5Copy.calls a0_0 _ _ l0_1 _ _ l0_2 _ _ l0_3 t1422 t1423 t1426 t1429 _ ?side1 ?side2 ?side3 ?side4 ?side5 ?side6 A3.out).mono ?_); (case side1 => repeat (first | exact (Kd.C_below HR0_1.out HB.out) | (with_reducible refine Kd.C_alloc ?_ _) | (with_reducible refine Kd.C_drewN ?_ _) | (with_reducible refine Kd.C_drew ?_))); (case side2 => exact HC0_1.out); (case side3 => repeat (first | exact (Kd.C_below HR0_2.out HB.out) | (with_reducible refine Kd.C_alloc ?_ _) | (with_reducible refine Kd.C_drewN ?_ _) | (with_reducible refine Kd.C_drew ?_))); (case side4 => exact HC0_2.out); (case side5 => repeat (first | exact (Kd.C_below HR0_3.out HB.out) | (with_reducible refine Kd.C_alloc ?_ _) | (with_reducible refine Kd.C_drewN ?_ _) | (with_reducible refine Kd.C_drew ?_))); (case side6 => exact HC0_3.out); rintro e w8 ⟨v1424, v1427, v1430, rfl, ho0, ho1, ho2, hb⟩; refine ⟨_, rfl, ?_⟩; have n0_ := Aside0.mk (Kd.R_lower ho0 (below_size (hb_ HB.out))); have n1_ := Aside0.mk (Kd.R_lower ho1 (below_size (hb_ HB.out))); have n2_ := Aside0.mk (Kd.R_lower ho2 (below_size (hb_ HB.out))); have n3_ := Aside0.mk (bb_ BK1420.out hb); have n4_ := Aside0.mk (bb_ BK1421.out hb); have n5_ := Aside0.mk (below_step (hb_ HB.out) hb); clear BK1420; clear BK1421; clear HB; have HO1425 := n0_; have HO1428 := n1_; have HO1431 := n2_; have BK1420 := n3_; have BK1421 := n4_; have HB := n5_; clear n0_ n1_ n2_ n3_ n4_ n5_; (try clear hb); (try clear hb2); (try clear hk); (try clear hi); (try clear ho0); (try clear ho1); (try clear ho2)) | ((with_reducible refine gate_dst (N := 5) rfl ?_); refine box_event ?hg (N := 5) ?hd (cs := #[.int .i64 0, .slice none 0 0, .slice none 0 0, .slice none 0 0]) (t := 26) ?hr ?_; (case hd => rfl); (case hg => rfl); (case hr => first | (go_simp; done) | (go_simp; rfl)); intro gb1432 hg w9 hbox hb; have n0_ := Aside0.mk (Kd.R_below (rq_ HO1425.out) hb); have n1_ := Aside0.mk (Kd.R_below (rq_ HO1428.out) hb); have n2_ := Aside0.mk (Kd.R_below (rq_ HO1431.out) hb); have n3_ := Aside0.mk (bb_ BK1420.out hb); have n4_ := Aside0.mk (bb_ BK1421.out hb); have n5_ := Aside0.mk (below_step (hb_ HB.out) hb); have n6_ := Aside0.mk (hbox); have n7_ := Aside0.mk ((by rw [hg]; exact (below_size (hb_ HB.out)) : w.heap.size ≤ gb1432)); have n8_ := Aside0.mk ((by rw [hg]; exact (below_size (hb_ HB.out)) : w.heap.size ≤ gb1432)); have n9_ := Aside0.mk ((nl_ BK1420.out hg : gb1420 ≠ gb1432)); have n10_ := Aside0.mk ((ng_ BK1420.out hg : gb1432 ≠ gb1420)); have n11_ := Aside0.mk ((nl_ BK1421.out hg : gb1421 ≠ gb1432)); have n12_ := Aside0.mk ((ng_ BK1421.out hg : gb1432 ≠ gb1421)); clear HO1425; clear HO1428; clear HO1431; clear BK1420; clear BK1421; clear HB; have HO1425 := n0_; have HO1428 := n1_; have HO1431 := n2_; have BK1420 := n3_; have BK1421 := n4_; have HB := n5_; have BK1432 := n6_; have GW1432 := n7_; have GE1432 := n8_; have NB1420_1432 := n9_; have NB1432_1420 := n10_; have NB1421_1432 := n11_; have NB1432_1421 := n12_; clear n0_ n1_ n2_ n3_ n4_ n5_ n6_ n7_ n8_ n9_ n10_ n11_ n12_; clear hb hbox hg; have hnb10 := NB1432_1420.out; have hnc10 := NB1420_1432.out; have hnb11 := NB1432_1421.out; have hnc11 := NB1421_1432.out; have hcz12_0 : w9.cell? ⟨gb1432, 0, none⟩ = some (.int .i64 0) := (blk_cell BK1432.out 0).trans rfl; have hcz12_1 : w9.cell? ⟨gb1432, 1, none⟩ = some (.slice none 0 0) := (blk_cell BK1432.out 1).trans rfl; have hcz12_2 : w9.cell? ⟨gb1432, 2, none⟩ = some (.slice none 0 0) := (blk_cell BK1432.out 2).trans rfl; have hcz12_3 : w9.cell? ⟨gb1432, 3, none⟩ = some (.slice none 0 0) := (blk_cell BK1432.out 3).trans rfl; have hfz12_0 := blk_frozen BK1432.out 0; have hfz12_1 := blk_frozen BK1432.out 1; have hfz12_2 := blk_frozen BK1432.out 2; have hfz12_3 := blk_frozen BK1432.out 3; obtain ⟨Ao13, co13, eo13⟩ := Kd.R_slice HO1425.out; subst eo13; obtain ⟨Ao14, co14, eo14⟩ := Kd.R_slice HO1428.out; subst eo14; obtain ⟨Ao15, co15, eo15⟩ := Kd.R_slice HO1431.out; subst eo15; have hcz16_0 : w9.cell? ⟨gb1420, 0, none⟩ = some (.int .i64 a0_0) := (blk_cell BK1420.out 0).trans rfl; have hcz16_1 : w9.cell? ⟨gb1420, 1, none⟩ = some (.slice A0_1 l0_1.length c0_1) := (blk_cell BK1420.out 1).trans rfl; have hcz16_2 : w9.cell? ⟨gb1420, 2, none⟩ = some (.slice A0_2 l0_2.length c0_2) := (blk_cell BK1420.out 2).trans rfl; have hcz16_3 : w9.cell? ⟨gb1420, 3, none⟩ = some (.slice A0_3 l0_3.length c0_3) := (blk_cell BK1420.out 3).trans rfl; have hfz16_0 := blk_frozen BK1420.out 0; have hfz16_1 := blk_frozen BK1420.out 1; have hfz16_2 := blk_frozen BK1420.out 2; have hfz16_3 := blk_frozen BK1420.out 3))
 go_loopg [6, 7] k (fun kq v6 v7 w' => ∃ (x6_1 : Bool) (x7_1 : Int) (x1433000_1 : Int) (x1433001_1 : List Int) (x1433002_1 : List Int) (x1433003_1 : List Int) (u1433001 : Value) (u1433002 : Value) (u1433003 : Value), v6 = .bool x6_1 ∧ v7 = .int .i64 x7_1 ∧ Aside0 (spec_GroupTick.l0 kq a1 x6_1 x7_1 a0_0 l0_1 l0_2 l0_3 x1433000_1 x1433001_1 x1433002_1 x1433003_1 = some (r1, r2, r3, r4)) ∧ Aside0 (kq ≤ k) ∧ Aside0 (Kd.R (Kd.int .i64) 3 w' w.heap.size (fun k_ => some k_ ≠ (u1433002 : Value).ownBlock ∧ some k_ ≠ (u1433003 : Value).ownBlock) u1433001 x1433001_1) ∧ Aside0 (Kd.R (Kd.int .i64) 3 w' w.heap.size (fun k_ => some k_ ≠ (u1433001 : Value).ownBlock ∧ some k_ ≠ (u1433003 : Value).ownBlock) u1433002 x1433002_1) ∧ Aside0 (Kd.R (Kd.int .i64) 3 w' w.heap.size (fun k_ => some k_ ≠ (u1433001 : Value).ownBlock ∧ some k_ ≠ (u1433002 : Value).ownBlock) u1433003 x1433003_1) ∧ Aside0 (w'.heap[gb1420]? = some (.cells #[.int .i64 a0_0, (.slice A0_1 l0_1.length c0_1), (.slice A0_2 l0_2.length c0_2), (.slice A0_3 l0_3.length c0_3)] 26 (0, 0))) ∧ Aside0 (w'.heap[gb1421]? = some (.cells #[.int .i64 0, (.slice none 0 0), (.slice none 0 0), (.slice none 0 0)] 26 (0, 0))) ∧ Aside0 (w'.heap[gb1432]? = some (.cells #[.int .i64 x1433000_1, u1433001, u1433002, u1433003] 26 (0, 0))) ∧ Aside0 (Below w.heap.size w w'))
 case atStart => exact ⟨(false), (wrap64 ((l0_1.length : Int) - 1)), (t1422), (t1423), (t1426), (t1429), (.slice Ao13 t1423.length co13), (.slice Ao14 t1426.length co14), (.slice Ao15 t1429.length co15), (by first | rfl | (simp; done) | (simp [*]; done)), (by first | rfl | (simp; done) | (simp [*]; done)), H', ⟨Nat.le_refl _⟩, ⟨by (with_reducible repeat (first | apply Kd.R_alloc | apply Kd.R_drewN | apply Kd.R_drew)); exact Kd.R_mono (Kd.R_far (p := ⟨gb1432, 3, none⟩) (Kd.R_far (p := ⟨gb1432, 2, none⟩) (Kd.R_far (p := ⟨gb1432, 1, none⟩) (Kd.R_far (p := ⟨gb1432, 0, none⟩) (Kd.R_types HO1425.out BK1432.out (by decide)) (fun _ hk => hk.2) (.int .i64 t1422)) (fun _ hk => hk.2) (.slice Ao13 t1423.length co13)) (fun _ hk => hk.2) (.slice Ao14 t1426.length co14)) (fun _ hk => hk.2) (.slice Ao15 t1429.length co15)) (fun _ hk => ⟨hk.1.1, hk.1.2⟩)⟩, ⟨by (with_reducible repeat (first | apply Kd.R_alloc | apply Kd.R_drewN | apply Kd.R_drew)); exact Kd.R_mono (Kd.R_far (p := ⟨gb1432, 3, none⟩) (Kd.R_far (p := ⟨gb1432, 2, none⟩) (Kd.R_far (p := ⟨gb1432, 1, none⟩) (Kd.R_far (p := ⟨gb1432, 0, none⟩) (Kd.R_types HO1428.out BK1432.out (by decide)) (fun _ hk => hk.2) (.int .i64 t1422)) (fun _ hk => hk.2) (.slice Ao13 t1423.length co13)) (fun _ hk => hk.2) (.slice Ao14 t1426.length co14)) (fun _ hk => hk.2) (.slice Ao15 t1429.length co15)) (fun _ hk => ⟨hk.1.1, hk.1.2⟩)⟩, ⟨by (with_reducible repeat (first | apply Kd.R_alloc | apply Kd.R_drewN | apply Kd.R_drew)); exact Kd.R_mono (Kd.R_far (p := ⟨gb1432, 3, none⟩) (Kd.R_far (p := ⟨gb1432, 2, none⟩) (Kd.R_far (p := ⟨gb1432, 1, none⟩) (Kd.R_far (p := ⟨gb1432, 0, none⟩) (Kd.R_types HO1431.out BK1432.out (by decide)) (fun _ hk => hk.2) (.int .i64 t1422)) (fun _ hk => hk.2) (.slice Ao13 t1423.length co13)) (fun _ hk => hk.2) (.slice Ao14 t1426.length co14)) (fun _ hk => hk.2) (.slice Ao15 t1429.length co15)) (fun _ hk => ⟨hk.1.1, hk.1.2⟩)⟩, ⟨by (with_reducible repeat (first | refine blk_drewN ?_ _ | refine blk_drew ?_ | refine blk_alloc ?_ _)); refine blk_far ?_ NB1420_1432.out _; (with_reducible repeat (first | refine blk_drewN ?_ _ | refine blk_drew ?_ | refine blk_alloc ?_ _)); refine blk_far ?_ NB1420_1432.out _; (with_reducible repeat (first | refine blk_drewN ?_ _ | refine blk_drew ?_ | refine blk_alloc ?_ _)); refine blk_far ?_ NB1420_1432.out _; (with_reducible repeat (first | refine blk_drewN ?_ _ | refine blk_drew ?_ | refine blk_alloc ?_ _)); refine blk_far ?_ NB1420_1432.out _; (with_reducible repeat (first | refine blk_drewN ?_ _ | refine blk_drew ?_ | refine blk_alloc ?_ _)); exact BK1420.out⟩, ⟨by (with_reducible repeat (first | refine blk_drewN ?_ _ | refine blk_drew ?_ | refine blk_alloc ?_ _)); refine blk_far ?_ NB1421_1432.out _; (with_reducible repeat (first | refine blk_drewN ?_ _ | refine blk_drew ?_ | refine blk_alloc ?_ _)); refine blk_far ?_ NB1421_1432.out _; (with_reducible repeat (first | refine blk_drewN ?_ _ | refine blk_drew ?_ | refine blk_alloc ?_ _)); refine blk_far ?_ NB1421_1432.out _; (with_reducible repeat (first | refine blk_drewN ?_ _ | refine blk_drew ?_ | refine blk_alloc ?_ _)); refine blk_far ?_ NB1421_1432.out _; (with_reducible repeat (first | refine blk_drewN ?_ _ | refine blk_drew ?_ | refine blk_alloc ?_ _)); exact BK1421.out⟩, ⟨by (with_reducible repeat (first | refine blk_drewN ?_ _ | refine blk_drew ?_ | refine blk_alloc ?_ _)); refine blk_put (cs := #[.int .i64 t1422, .slice Ao13 t1423.length co13, .slice Ao14 t1426.length co14, .slice none 0 0]) ?_ 3 _ rfl; (with_reducible repeat (first | refine blk_drewN ?_ _ | refine blk_drew ?_ | refine blk_alloc ?_ _)); refine blk_put (cs := #[.int .i64 t1422, .slice Ao13 t1423.length co13, .slice none 0 0, .slice none 0 0]) ?_ 2 _ rfl; (with_reducible repeat (first | refine blk_drewN ?_ _ | refine blk_drew ?_ | refine blk_alloc ?_ _)); refine blk_put (cs := #[.int .i64 t1422, .slice none 0 0, .slice none 0 0, .slice none 0 0]) ?_ 1 _ rfl; (with_reducible repeat (first | refine blk_drewN ?_ _ | refine blk_drew ?_ | refine blk_alloc ?_ _)); refine blk_put (cs := #[.int .i64 0, .slice none 0 0, .slice none 0 0, .slice none 0 0]) ?_ 0 _ rfl; (with_reducible repeat (first | refine blk_drewN ?_ _ | refine blk_drew ?_ | refine blk_alloc ?_ _)); exact BK1432.out⟩, ⟨hb_ HB.out⟩⟩
 case round =>
  clear H'
  (try clear c1); (try clear p2); (try clear c6); (try clear p6); (try clear c8); (try clear c10); (try clear c11); (try clear hcz12_0); (try clear hcz12_1); (try clear hcz12_2); (try clear hcz12_3); (try clear hcz16_0); (try clear hcz16_1); (try clear hcz16_2); (try clear hcz16_3); (try clear hcz7_0); (try clear hcz7_1); (try clear hcz7_2); (try clear hcz7_3); (try clear hfz12_0); (try clear hfz12_1); (try clear hfz12_2); (try clear hfz12_3); (try clear hfz16_0); (try clear hfz16_1); (try clear hfz16_2); (try clear hfz16_3); (try clear hfz7_0); (try clear hfz7_1); (try clear hfz7_2); (try clear hfz7_3)
  obtain ⟨x6_1, x7_1, x1433000_1, x1433001_1, x1433002_1, x1433003_1, u1433001, u1433002, u1433003, rfl, rfl, HA, HK1, HO_1433001, HO_1433002, HO_1433003, BK1420, BK1421, BK1432, HB⟩ := hrel
  cases gk with
  | zero => exact absurd HA.out (by simp [spec_GroupTick.l0])
  | succ k1 =>
   have H := HA.out
   clear HA
   simp only [spec_GroupTick.l0] at H
   by_cases c17 : x7_1 ≥ 0
   ·
    rw [if_pos c17] at H
    have c17b0 : decide (0 ≤ x7_1) = true := decide_eq_true c17
    clear c17
    by_cases c18 : x7_1 < (l0_2.length : Int)
    ·
     rw [if_pos c18] at H
     have c18b0 : decide (x7_1 < (l0_2.length : Int)) = true := decide_eq_true c18
     clear c18
     by_cases c19 : 0 ≤ x7_1
     ·
      rw [if_pos c19] at H
      have c19b0 : decide (0 ≤ x7_1) = true := decide_eq_true c19
      clear c19
      by_cases c20 : a1 > (rd l0_2 x7_1)
      ·
       rw [if_pos c20] at H
       have c20b0 : decide ((rd l0_2 x7_1) < a1) = true := decide_eq_true c20
       clear c20
       by_cases c21 : (wrap64 (a1 - (rd l0_2 x7_1))) > 50
       ·
        rw [if_pos c21] at H
        have c21b0 : decide (50 < (wrap64 (a1 - (rd l0_2 x7_1)))) = true := decide_eq_true c21
        clear c21
        replace H := Option.bind_eq_some_iff.mp H
        obtain ⟨⟨t1435, t1436, t1439, t1442⟩, A220, H⟩ := H
        replace H : (spec_GroupTick.l0 k1 a1 true (wrap64 (x7_1 - 1)) a0_0 l0_1 l0_2 l0_3 t1435 t1436 t1439 t1442) = some (r1, r2, r3, r4) := H
        have A22 := Aside0.mk A220
        clear A220
        have H' := Aside0.mk H
        clear H
        have hnb23 := NB1420_1421.out
        have hnc23 := NB1421_1420.out
        have hnb24 := NB1420_1432.out
        have hnc24 := NB1432_1420.out
        have hcz25_0 : wr.cell? ⟨gb1420, 0, none⟩ = some (.int .i64 a0_0) := (blk_cell BK1420.out 0).trans rfl
        have hcz25_1 : wr.cell? ⟨gb1420, 1, none⟩ = some (.slice A0_1 l0_1.length c0_1) := (blk_cell BK1420.out 1).trans rfl
        have hcz25_2 : wr.cell? ⟨gb1420, 2, none⟩ = some (.slice A0_2 l0_2.length c0_2) := (blk_cell BK1420.out 2).trans rfl
        have hcz25_3 : wr.cell? ⟨gb1420, 3, none⟩ = some (.slice A0_3 l0_3.length c0_3) := (blk_cell BK1420.out 3).trans rfl
        have hfz25_0 := blk_frozen BK1420.out 0
        have hfz25_1 := blk_frozen BK1420.out 1
        have hfz25_2 := blk_frozen BK1420.out 2
        have hfz25_3 := blk_frozen BK1420.out 3
        have p1433 : 0 ≤ (x7_1 : Int) := of_decide_eq_true (by first | (with_reducible assumption) | assumption)
        have q1433 : x7_1 < (l0_2.length : Int) := of_decide_eq_true (by first | (with_reducible assumption) | assumption)
        obtain ⟨ad1433, e1433, hx1433_0⟩ := Kd.at_int HR0_2.out x7_1 p1433 q1433
        cases e1433
        replace hx1433_0 := (HB.out.cell (World.block_lt_of_cell? w _ hx1433_0)).trans hx1433_0
        replace p1433 := eq_true p1433
        replace q1433 := eq_true q1433
        have p1434 : 0 ≤ (x7_1 : Int) := of_decide_eq_true (by first | (with_reducible assumption) | assumption)
        have q1434 : x7_1 < (l0_2.length : Int) := of_decide_eq_true (by first | (with_reducible assumption) | assumption)
        obtain ⟨ad1434, e1434, hx1434_0⟩ := Kd.at_int HR0_2.out x7_1 p1434 q1434
        obtain rfl : ad1433 = ad1434 := (by injection e1434)
        replace hx1434_0 := (HB.out.cell (World.block_lt_of_cell? w _ hx1434_0)).trans hx1434_0
        replace p1434 := eq_true p1434
        replace q1434 := eq_true q1434
        have hnb26 := NB1432_1421.out
        have hnc26 := NB1421_1432.out
        have hcz27_0 : wr.cell? ⟨gb1432, 0, none⟩ = some (.int .i64 x1433000_1) := (blk_cell BK1432.out 0).trans rfl
        have hcz27_1 : wr.cell? ⟨gb1432, 1, none⟩ = some (u1433001) := (blk_cell BK1432.out 1).trans rfl
        have hcz27_2 : wr.cell? ⟨gb1432, 2, none⟩ = some (u1433002) := (blk_cell BK1432.out 2).trans rfl
        have hcz27_3 : wr.cell? ⟨gb1432, 3, none⟩ = some (u1433003) := (blk_cell BK1432.out 3).trans rfl
        have hfz27_0 := blk_frozen BK1432.out 0
        have hfz27_1 := blk_frozen BK1432.out 1
        have hfz27_2 := blk_frozen BK1432.out 2
        have hfz27_3 := blk_frozen BK1432.out 3
        obtain ⟨Ao28, co28, eo28⟩ := Kd.R_slice HO_1433001.out
        subst eo28
        obtain ⟨Ao29, co29, eo29⟩ := Kd.R_slice HO_1433002.out
        subst eo29
        obtain ⟨Ao30, co30, eo30⟩ := Kd.R_slice HO_1433003.out
        subst eo30
        go_wp2_with (first | ((with_reducible refine gate_callee (f := 177) rfl ?_); refine goesL_ (some 54) rfl rfl Try.func177 (by kernel_rfl) rfl #[.agg #[.int .i64 x1433000_1, .slice Ao28 x1433001_1.length co28, .slice Ao29 x1433002_1.length co29, .slice Ao30 x1433003_1.length co30], .int .i64 x7_1] rfl sm_ ?_; (with_reducible refine (spec_l5Without.calls x1433000_1 _ _ x1433001_1 _ _ x1433002_1 _ _ x1433003_1 x7_1 t1435 t1436 t1439 t1442 _ ?side1 ?side2 ?side3 ?side4 ?side5 ?side6 A22.out).mono ?_); (case side1 => repeat (first | exact (Kd.R_reads' HO_1433001.out).2.2 | (with_reducible refine Kd.C_alloc ?_ _) | (with_reducible refine Kd.C_drewN ?_ _) | (with_reducible refine Kd.C_drew ?_))); (case side2 => exact (Kd.R_reads' HO_1433001.out).2.1); (case side3 => repeat (first | exact (Kd.R_reads' HO_1433002.out).2.2 | (with_reducible refine Kd.C_alloc ?_ _) | (with_reducible refine Kd.C_drewN ?_ _) | (with_reducible refine Kd.C_drew ?_))); (case side4 => exact (Kd.R_reads' HO_1433002.out).2.1); (case side5 => repeat (first | exact (Kd.R_reads' HO_1433003.out).2.2 | (with_reducible refine Kd.C_alloc ?_ _) | (with_reducible refine Kd.C_drewN ?_ _) | (with_reducible refine Kd.C_drew ?_))); (case side6 => exact (Kd.R_reads' HO_1433003.out).2.1); rintro e w31 ⟨v1437, v1440, v1443, rfl, ho0, ho1, ho2, hb⟩; refine ⟨_, rfl, ?_⟩; have n0_ := Aside0.mk (Kd.R_mono (Kd.R_told (Kd.R_told (Kd.R_told (Kd.R_old (rq_ HO_1433001.out) hb) (Kd.R_base ho0)) (Kd.R_base ho1)) (Kd.R_base ho2)) (fun _ h_ => h_.1)); have n1_ := Aside0.mk (Kd.R_mono (Kd.R_told (Kd.R_told (Kd.R_told (Kd.R_old (rq_ HO_1433002.out) hb) (Kd.R_base ho0)) (Kd.R_base ho1)) (Kd.R_base ho2)) (fun _ h_ => h_.1)); have n2_ := Aside0.mk (Kd.R_mono (Kd.R_told (Kd.R_told (Kd.R_told (Kd.R_old (rq_ HO_1433003.out) hb) (Kd.R_base ho0)) (Kd.R_base ho1)) (Kd.R_base ho2)) (fun _ h_ => h_.1)); have n3_ := Aside0.mk (Kd.R_lower (Kd.R_new' (Kd.R_new' (Kd.R_new' ho0 (Kd.R_lt (rq_ HO_1433001.out))) (Kd.R_lt (rq_ HO_1433002.out))) (Kd.R_lt (rq_ HO_1433003.out))) (below_size (hb_ HB.out))); have n4_ := Aside0.mk (Kd.R_lower (Kd.R_new' (Kd.R_new' (Kd.R_new' ho1 (Kd.R_lt (rq_ HO_1433001.out))) (Kd.R_lt (rq_ HO_1433002.out))) (Kd.R_lt (rq_ HO_1433003.out))) (below_size (hb_ HB.out))); have n5_ := Aside0.mk (Kd.R_lower (Kd.R_new' (Kd.R_new' (Kd.R_new' ho2 (Kd.R_lt (rq_ HO_1433001.out))) (Kd.R_lt (rq_ HO_1433002.out))) (Kd.R_lt (rq_ HO_1433003.out))) (below_size (hb_ HB.out))); have n6_ := Aside0.mk (bb_ BK1420.out hb); have n7_ := Aside0.mk (bb_ BK1421.out hb); have n8_ := Aside0.mk (bb_ BK1432.out hb); have n9_ := Aside0.mk (below_step (hb_ HB.out) hb); clear HO_1433001; clear HO_1433002; clear HO_1433003; clear BK1420; clear BK1421; clear BK1432; clear HB; have HO_1433001 := n0_; have HO_1433002 := n1_; have HO_1433003 := n2_; have HO1438 := n3_; have HO1441 := n4_; have HO1444 := n5_; have BK1420 := n6_; have BK1421 := n7_; have BK1432 := n8_; have HB := n9_; clear n0_ n1_ n2_ n3_ n4_ n5_ n6_ n7_ n8_ n9_; (try clear hb); (try clear hb2); (try clear hk); (try clear hi); (try clear ho0); (try clear ho1); (try clear ho2); have hcz32_0 : w31.cell? ⟨gb1432, 0, none⟩ = some (.int .i64 x1433000_1) := (blk_cell BK1432.out 0).trans rfl; have hcz32_1 : w31.cell? ⟨gb1432, 1, none⟩ = some (.slice Ao28 x1433001_1.length co28) := (blk_cell BK1432.out 1).trans rfl; have hcz32_2 : w31.cell? ⟨gb1432, 2, none⟩ = some (.slice Ao29 x1433002_1.length co29) := (blk_cell BK1432.out 2).trans rfl; have hcz32_3 : w31.cell? ⟨gb1432, 3, none⟩ = some (.slice Ao30 x1433003_1.length co30) := (blk_cell BK1432.out 3).trans rfl; have hfz32_0 := blk_frozen BK1432.out 0; have hfz32_1 := blk_frozen BK1432.out 1; have hfz32_2 := blk_frozen BK1432.out 2; have hfz32_3 := blk_frozen BK1432.out 3; obtain ⟨Ao33, co33, eo33⟩ := Kd.R_slice HO1438.out; subst eo33; obtain ⟨Ao34, co34, eo34⟩ := Kd.R_slice HO1441.out; subst eo34; obtain ⟨Ao35, co35, eo35⟩ := Kd.R_slice HO1444.out; subst eo35))
        go_roundg k1
        case measure => have := HK1.out; omega
        case rel => exact ⟨(true), (wrap64 (x7_1 - 1)), (t1435), (t1436), (t1439), (t1442), (.slice Ao33 t1436.length co33), (.slice Ao34 t1439.length co34), (.slice Ao35 t1442.length co35), (by first | rfl | (simp; done) | (simp [*]; done)), (by first | rfl | (simp; done) | (simp [*]; done)), H', ⟨by have := HK1.out; omega⟩, ⟨by (with_reducible repeat (first | apply Kd.R_alloc | apply Kd.R_drewN | apply Kd.R_drew)); exact Kd.R_mono (Kd.R_far (p := ⟨gb1432, 3, none⟩) (Kd.R_far (p := ⟨gb1432, 2, none⟩) (Kd.R_far (p := ⟨gb1432, 1, none⟩) (Kd.R_far (p := ⟨gb1432, 0, none⟩) (Kd.R_types HO1438.out BK1432.out (by decide)) (fun _ hk => hk.2) (.int .i64 t1435)) (fun _ hk => hk.2) (.slice Ao33 t1436.length co33)) (fun _ hk => hk.2) (.slice Ao34 t1439.length co34)) (fun _ hk => hk.2) (.slice Ao35 t1442.length co35)) (fun _ hk => ⟨hk.1.1.1.1.1, hk.1.1.1.1.2⟩)⟩, ⟨by (with_reducible repeat (first | apply Kd.R_alloc | apply Kd.R_drewN | apply Kd.R_drew)); exact Kd.R_mono (Kd.R_far (p := ⟨gb1432, 3, none⟩) (Kd.R_far (p := ⟨gb1432, 2, none⟩) (Kd.R_far (p := ⟨gb1432, 1, none⟩) (Kd.R_far (p := ⟨gb1432, 0, none⟩) (Kd.R_types HO1441.out BK1432.out (by decide)) (fun _ hk => hk.2) (.int .i64 t1435)) (fun _ hk => hk.2) (.slice Ao33 t1436.length co33)) (fun _ hk => hk.2) (.slice Ao34 t1439.length co34)) (fun _ hk => hk.2) (.slice Ao35 t1442.length co35)) (fun _ hk => ⟨hk.1.1.1.1.1, hk.1.1.1.1.2⟩)⟩, ⟨by (with_reducible repeat (first | apply Kd.R_alloc | apply Kd.R_drewN | apply Kd.R_drew)); exact Kd.R_mono (Kd.R_far (p := ⟨gb1432, 3, none⟩) (Kd.R_far (p := ⟨gb1432, 2, none⟩) (Kd.R_far (p := ⟨gb1432, 1, none⟩) (Kd.R_far (p := ⟨gb1432, 0, none⟩) (Kd.R_types HO1444.out BK1432.out (by decide)) (fun _ hk => hk.2) (.int .i64 t1435)) (fun _ hk => hk.2) (.slice Ao33 t1436.length co33)) (fun _ hk => hk.2) (.slice Ao34 t1439.length co34)) (fun _ hk => hk.2) (.slice Ao35 t1442.length co35)) (fun _ hk => ⟨hk.1.1.1.1.1, hk.1.1.1.1.2⟩)⟩, ⟨by (with_reducible repeat (first | refine blk_drewN ?_ _ | refine blk_drew ?_ | refine blk_alloc ?_ _)); refine blk_far ?_ NB1420_1432.out _; (with_reducible repeat (first | refine blk_drewN ?_ _ | refine blk_drew ?_ | refine blk_alloc ?_ _)); refine blk_far ?_ NB1420_1432.out _; (with_reducible repeat (first | refine blk_drewN ?_ _ | refine blk_drew ?_ | refine blk_alloc ?_ _)); refine blk_far ?_ NB1420_1432.out _; (with_reducible repeat (first | refine blk_drewN ?_ _ | refine blk_drew ?_ | refine blk_alloc ?_ _)); refine blk_far ?_ NB1420_1432.out _; (with_reducible repeat (first | refine blk_drewN ?_ _ | refine blk_drew ?_ | refine blk_alloc ?_ _)); exact BK1420.out⟩, ⟨by (with_reducible repeat (first | refine blk_drewN ?_ _ | refine blk_drew ?_ | refine blk_alloc ?_ _)); refine blk_far ?_ NB1421_1432.out _; (with_reducible repeat (first | refine blk_drewN ?_ _ | refine blk_drew ?_ | refine blk_alloc ?_ _)); refine blk_far ?_ NB1421_1432.out _; (with_reducible repeat (first | refine blk_drewN ?_ _ | refine blk_drew ?_ | refine blk_alloc ?_ _)); refine blk_far ?_ NB1421_1432.out _; (with_reducible repeat (first | refine blk_drewN ?_ _ | refine blk_drew ?_ | refine blk_alloc ?_ _)); refine blk_far ?_ NB1421_1432.out _; (with_reducible repeat (first | refine blk_drewN ?_ _ | refine blk_drew ?_ | refine blk_alloc ?_ _)); exact BK1421.out⟩, ⟨by (with_reducible repeat (first | refine blk_drewN ?_ _ | refine blk_drew ?_ | refine blk_alloc ?_ _)); refine blk_put (cs := #[.int .i64 t1435, .slice Ao33 t1436.length co33, .slice Ao34 t1439.length co34, .slice Ao30 x1433003_1.length co30]) ?_ 3 _ rfl; (with_reducible repeat (first | refine blk_drewN ?_ _ | refine blk_drew ?_ | refine blk_alloc ?_ _)); refine blk_put (cs := #[.int .i64 t1435, .slice Ao33 t1436.length co33, .slice Ao29 x1433002_1.length co29, .slice Ao30 x1433003_1.length co30]) ?_ 2 _ rfl; (with_reducible repeat (first | refine blk_drewN ?_ _ | refine blk_drew ?_ | refine blk_alloc ?_ _)); refine blk_put (cs := #[.int .i64 t1435, .slice Ao28 x1433001_1.length co28, .slice Ao29 x1433002_1.length co29, .slice Ao30 x1433003_1.length co30]) ?_ 1 _ rfl; (with_reducible repeat (first | refine blk_drewN ?_ _ | refine blk_drew ?_ | refine blk_alloc ?_ _)); refine blk_put (cs := #[.int .i64 x1433000_1, .slice Ao28 x1433001_1.length co28, .slice Ao29 x1433002_1.length co29, .slice Ao30 x1433003_1.length co30]) ?_ 0 _ rfl; (with_reducible repeat (first | refine blk_drewN ?_ _ | refine blk_drew ?_ | refine blk_alloc ?_ _)); exact BK1432.out⟩, ⟨hb_ HB.out⟩⟩
       ·
        rw [if_neg c21] at H
        have c21b0 : decide (50 < (wrap64 (a1 - (rd l0_2 x7_1)))) = false := decide_eq_false c21
        clear c21
        by_cases c36 : (wrap64 (a1 - (rd l0_2 x7_1))) < 0
        ·
         rw [if_pos c36] at H
         have c36b0 : decide ((wrap64 (a1 - (rd l0_2 x7_1))) < 0) = true := decide_eq_true c36
         clear c36
         replace H := Option.bind_eq_some_iff.mp H
         obtain ⟨⟨t1446, t1447, t1450, t1453⟩, A370, H⟩ := H
         replace H : (spec_GroupTick.l0 k1 a1 true (wrap64 (x7_1 - 1)) a0_0 l0_1 l0_2 l0_3 t1446 t1447 t1450 t1453) = some (r1, r2, r3, r4) := H
         have A37 := Aside0.mk A370
         clear A370
         have H' := Aside0.mk H
         clear H
         have hnb38 := NB1420_1421.out
         have hnc38 := NB1421_1420.out
         have hnb39 := NB1420_1432.out
         have hnc39 := NB1432_1420.out
         have hcz40_0 : wr.cell? ⟨gb1420, 0, none⟩ = some (.int .i64 a0_0) := (blk_cell BK1420.out 0).trans rfl
         have hcz40_1 : wr.cell? ⟨gb1420, 1, none⟩ = some (.slice A0_1 l0_1.length c0_1) := (blk_cell BK1420.out 1).trans rfl
         have hcz40_2 : wr.cell? ⟨gb1420, 2, none⟩ = some (.slice A0_2 l0_2.length c0_2) := (blk_cell BK1420.out 2).trans rfl
         have hcz40_3 : wr.cell? ⟨gb1420, 3, none⟩ = some (.slice A0_3 l0_3.length c0_3) := (blk_cell BK1420.out 3).trans rfl
         have hfz40_0 := blk_frozen BK1420.out 0
         have hfz40_1 := blk_frozen BK1420.out 1
         have hfz40_2 := blk_frozen BK1420.out 2
         have hfz40_3 := blk_frozen BK1420.out 3
         have p1433 : 0 ≤ (x7_1 : Int) := of_decide_eq_true (by first | (with_reducible assumption) | assumption)
         have q1433 : x7_1 < (l0_2.length : Int) := of_decide_eq_true (by first | (with_reducible assumption) | assumption)
         obtain ⟨ad1433, e1433, hx1433_0⟩ := Kd.at_int HR0_2.out x7_1 p1433 q1433
         cases e1433
         replace hx1433_0 := (HB.out.cell (World.block_lt_of_cell? w _ hx1433_0)).trans hx1433_0
         replace p1433 := eq_true p1433
         replace q1433 := eq_true q1433
         have p1434 : 0 ≤ (x7_1 : Int) := of_decide_eq_true (by first | (with_reducible assumption) | assumption)
         have q1434 : x7_1 < (l0_2.length : Int) := of_decide_eq_true (by first | (with_reducible assumption) | assumption)
         obtain ⟨ad1434, e1434, hx1434_0⟩ := Kd.at_int HR0_2.out x7_1 p1434 q1434
         obtain rfl : ad1433 = ad1434 := (by injection e1434)
         replace hx1434_0 := (HB.out.cell (World.block_lt_of_cell? w _ hx1434_0)).trans hx1434_0
         replace p1434 := eq_true p1434
         replace q1434 := eq_true q1434
         have p1445 : 0 ≤ (x7_1 : Int) := of_decide_eq_true (by first | (with_reducible assumption) | assumption)
         have q1445 : x7_1 < (l0_2.length : Int) := of_decide_eq_true (by first | (with_reducible assumption) | assumption)
         obtain ⟨ad1445, e1445, hx1445_0⟩ := Kd.at_int HR0_2.out x7_1 p1445 q1445
         obtain rfl : ad1433 = ad1445 := (by injection e1445)
         replace hx1445_0 := (HB.out.cell (World.block_lt_of_cell? w _ hx1445_0)).trans hx1445_0
         replace p1445 := eq_true p1445
         replace q1445 := eq_true q1445
         have hnb41 := NB1432_1421.out
         have hnc41 := NB1421_1432.out
         have hcz42_0 : wr.cell? ⟨gb1432, 0, none⟩ = some (.int .i64 x1433000_1) := (blk_cell BK1432.out 0).trans rfl
         have hcz42_1 : wr.cell? ⟨gb1432, 1, none⟩ = some (u1433001) := (blk_cell BK1432.out 1).trans rfl
         have hcz42_2 : wr.cell? ⟨gb1432, 2, none⟩ = some (u1433002) := (blk_cell BK1432.out 2).trans rfl
         have hcz42_3 : wr.cell? ⟨gb1432, 3, none⟩ = some (u1433003) := (blk_cell BK1432.out 3).trans rfl
         have hfz42_0 := blk_frozen BK1432.out 0
         have hfz42_1 := blk_frozen BK1432.out 1
         have hfz42_2 := blk_frozen BK1432.out 2
         have hfz42_3 := blk_frozen BK1432.out 3
         obtain ⟨Ao43, co43, eo43⟩ := Kd.R_slice HO_1433001.out
         subst eo43
         obtain ⟨Ao44, co44, eo44⟩ := Kd.R_slice HO_1433002.out
         subst eo44
         obtain ⟨Ao45, co45, eo45⟩ := Kd.R_slice HO_1433003.out
         subst eo45
         go_wp2_with (first | ((with_reducible refine gate_callee (f := 177) rfl ?_); refine goesL_ (some 54) rfl rfl Try.func177 (by kernel_rfl) rfl #[.agg #[.int .i64 x1433000_1, .slice Ao43 x1433001_1.length co43, .slice Ao44 x1433002_1.length co44, .slice Ao45 x1433003_1.length co45], .int .i64 x7_1] rfl sm_ ?_; (with_reducible refine (spec_l5Without.calls x1433000_1 _ _ x1433001_1 _ _ x1433002_1 _ _ x1433003_1 x7_1 t1446 t1447 t1450 t1453 _ ?side1 ?side2 ?side3 ?side4 ?side5 ?side6 A37.out).mono ?_); (case side1 => repeat (first | exact (Kd.R_reads' HO_1433001.out).2.2 | (with_reducible refine Kd.C_alloc ?_ _) | (with_reducible refine Kd.C_drewN ?_ _) | (with_reducible refine Kd.C_drew ?_))); (case side2 => exact (Kd.R_reads' HO_1433001.out).2.1); (case side3 => repeat (first | exact (Kd.R_reads' HO_1433002.out).2.2 | (with_reducible refine Kd.C_alloc ?_ _) | (with_reducible refine Kd.C_drewN ?_ _) | (with_reducible refine Kd.C_drew ?_))); (case side4 => exact (Kd.R_reads' HO_1433002.out).2.1); (case side5 => repeat (first | exact (Kd.R_reads' HO_1433003.out).2.2 | (with_reducible refine Kd.C_alloc ?_ _) | (with_reducible refine Kd.C_drewN ?_ _) | (with_reducible refine Kd.C_drew ?_))); (case side6 => exact (Kd.R_reads' HO_1433003.out).2.1); rintro e w46 ⟨v1448, v1451, v1454, rfl, ho0, ho1, ho2, hb⟩; refine ⟨_, rfl, ?_⟩; have n0_ := Aside0.mk (Kd.R_mono (Kd.R_told (Kd.R_told (Kd.R_told (Kd.R_old (rq_ HO_1433001.out) hb) (Kd.R_base ho0)) (Kd.R_base ho1)) (Kd.R_base ho2)) (fun _ h_ => h_.1)); have n1_ := Aside0.mk (Kd.R_mono (Kd.R_told (Kd.R_told (Kd.R_told (Kd.R_old (rq_ HO_1433002.out) hb) (Kd.R_base ho0)) (Kd.R_base ho1)) (Kd.R_base ho2)) (fun _ h_ => h_.1)); have n2_ := Aside0.mk (Kd.R_mono (Kd.R_told (Kd.R_told (Kd.R_told (Kd.R_old (rq_ HO_1433003.out) hb) (Kd.R_base ho0)) (Kd.R_base ho1)) (Kd.R_base ho2)) (fun _ h_ => h_.1)); have n3_ := Aside0.mk (Kd.R_lower (Kd.R_new' (Kd.R_new' (Kd.R_new' ho0 (Kd.R_lt (rq_ HO_1433001.out))) (Kd.R_lt (rq_ HO_1433002.out))) (Kd.R_lt (rq_ HO_1433003.out))) (below_size (hb_ HB.out))); have n4_ := Aside0.mk (Kd.R_lower (Kd.R_new' (Kd.R_new' (Kd.R_new' ho1 (Kd.R_lt (rq_ HO_1433001.out))) (Kd.R_lt (rq_ HO_1433002.out))) (Kd.R_lt (rq_ HO_1433003.out))) (below_size (hb_ HB.out))); have n5_ := Aside0.mk (Kd.R_lower (Kd.R_new' (Kd.R_new' (Kd.R_new' ho2 (Kd.R_lt (rq_ HO_1433001.out))) (Kd.R_lt (rq_ HO_1433002.out))) (Kd.R_lt (rq_ HO_1433003.out))) (below_size (hb_ HB.out))); have n6_ := Aside0.mk (bb_ BK1420.out hb); have n7_ := Aside0.mk (bb_ BK1421.out hb); have n8_ := Aside0.mk (bb_ BK1432.out hb); have n9_ := Aside0.mk (below_step (hb_ HB.out) hb); clear HO_1433001; clear HO_1433002; clear HO_1433003; clear BK1420; clear BK1421; clear BK1432; clear HB; have HO_1433001 := n0_; have HO_1433002 := n1_; have HO_1433003 := n2_; have HO1449 := n3_; have HO1452 := n4_; have HO1455 := n5_; have BK1420 := n6_; have BK1421 := n7_; have BK1432 := n8_; have HB := n9_; clear n0_ n1_ n2_ n3_ n4_ n5_ n6_ n7_ n8_ n9_; (try clear hb); (try clear hb2); (try clear hk); (try clear hi); (try clear ho0); (try clear ho1); (try clear ho2); have hcz47_0 : w46.cell? ⟨gb1432, 0, none⟩ = some (.int .i64 x1433000_1) := (blk_cell BK1432.out 0).trans rfl; have hcz47_1 : w46.cell? ⟨gb1432, 1, none⟩ = some (.slice Ao43 x1433001_1.length co43) := (blk_cell BK1432.out 1).trans rfl; have hcz47_2 : w46.cell? ⟨gb1432, 2, none⟩ = some (.slice Ao44 x1433002_1.length co44) := (blk_cell BK1432.out 2).trans rfl; have hcz47_3 : w46.cell? ⟨gb1432, 3, none⟩ = some (.slice Ao45 x1433003_1.length co45) := (blk_cell BK1432.out 3).trans rfl; have hfz47_0 := blk_frozen BK1432.out 0; have hfz47_1 := blk_frozen BK1432.out 1; have hfz47_2 := blk_frozen BK1432.out 2; have hfz47_3 := blk_frozen BK1432.out 3; obtain ⟨Ao48, co48, eo48⟩ := Kd.R_slice HO1449.out; subst eo48; obtain ⟨Ao49, co49, eo49⟩ := Kd.R_slice HO1452.out; subst eo49; obtain ⟨Ao50, co50, eo50⟩ := Kd.R_slice HO1455.out; subst eo50))
         go_roundg k1
         case measure => have := HK1.out; omega
         case rel => exact ⟨(true), (wrap64 (x7_1 - 1)), (t1446), (t1447), (t1450), (t1453), (.slice Ao48 t1447.length co48), (.slice Ao49 t1450.length co49), (.slice Ao50 t1453.length co50), (by first | rfl | (simp; done) | (simp [*]; done)), (by first | rfl | (simp; done) | (simp [*]; done)), H', ⟨by have := HK1.out; omega⟩, ⟨by (with_reducible repeat (first | apply Kd.R_alloc | apply Kd.R_drewN | apply Kd.R_drew)); exact Kd.R_mono (Kd.R_far (p := ⟨gb1432, 3, none⟩) (Kd.R_far (p := ⟨gb1432, 2, none⟩) (Kd.R_far (p := ⟨gb1432, 1, none⟩) (Kd.R_far (p := ⟨gb1432, 0, none⟩) (Kd.R_types HO1449.out BK1432.out (by decide)) (fun _ hk => hk.2) (.int .i64 t1446)) (fun _ hk => hk.2) (.slice Ao48 t1447.length co48)) (fun _ hk => hk.2) (.slice Ao49 t1450.length co49)) (fun _ hk => hk.2) (.slice Ao50 t1453.length co50)) (fun _ hk => ⟨hk.1.1.1.1.1, hk.1.1.1.1.2⟩)⟩, ⟨by (with_reducible repeat (first | apply Kd.R_alloc | apply Kd.R_drewN | apply Kd.R_drew)); exact Kd.R_mono (Kd.R_far (p := ⟨gb1432, 3, none⟩) (Kd.R_far (p := ⟨gb1432, 2, none⟩) (Kd.R_far (p := ⟨gb1432, 1, none⟩) (Kd.R_far (p := ⟨gb1432, 0, none⟩) (Kd.R_types HO1452.out BK1432.out (by decide)) (fun _ hk => hk.2) (.int .i64 t1446)) (fun _ hk => hk.2) (.slice Ao48 t1447.length co48)) (fun _ hk => hk.2) (.slice Ao49 t1450.length co49)) (fun _ hk => hk.2) (.slice Ao50 t1453.length co50)) (fun _ hk => ⟨hk.1.1.1.1.1, hk.1.1.1.1.2⟩)⟩, ⟨by (with_reducible repeat (first | apply Kd.R_alloc | apply Kd.R_drewN | apply Kd.R_drew)); exact Kd.R_mono (Kd.R_far (p := ⟨gb1432, 3, none⟩) (Kd.R_far (p := ⟨gb1432, 2, none⟩) (Kd.R_far (p := ⟨gb1432, 1, none⟩) (Kd.R_far (p := ⟨gb1432, 0, none⟩) (Kd.R_types HO1455.out BK1432.out (by decide)) (fun _ hk => hk.2) (.int .i64 t1446)) (fun _ hk => hk.2) (.slice Ao48 t1447.length co48)) (fun _ hk => hk.2) (.slice Ao49 t1450.length co49)) (fun _ hk => hk.2) (.slice Ao50 t1453.length co50)) (fun _ hk => ⟨hk.1.1.1.1.1, hk.1.1.1.1.2⟩)⟩, ⟨by (with_reducible repeat (first | refine blk_drewN ?_ _ | refine blk_drew ?_ | refine blk_alloc ?_ _)); refine blk_far ?_ NB1420_1432.out _; (with_reducible repeat (first | refine blk_drewN ?_ _ | refine blk_drew ?_ | refine blk_alloc ?_ _)); refine blk_far ?_ NB1420_1432.out _; (with_reducible repeat (first | refine blk_drewN ?_ _ | refine blk_drew ?_ | refine blk_alloc ?_ _)); refine blk_far ?_ NB1420_1432.out _; (with_reducible repeat (first | refine blk_drewN ?_ _ | refine blk_drew ?_ | refine blk_alloc ?_ _)); refine blk_far ?_ NB1420_1432.out _; (with_reducible repeat (first | refine blk_drewN ?_ _ | refine blk_drew ?_ | refine blk_alloc ?_ _)); exact BK1420.out⟩, ⟨by (with_reducible repeat (first | refine blk_drewN ?_ _ | refine blk_drew ?_ | refine blk_alloc ?_ _)); refine blk_far ?_ NB1421_1432.out _; (with_reducible repeat (first | refine blk_drewN ?_ _ | refine blk_drew ?_ | refine blk_alloc ?_ _)); refine blk_far ?_ NB1421_1432.out _; (with_reducible repeat (first | refine blk_drewN ?_ _ | refine blk_drew ?_ | refine blk_alloc ?_ _)); refine blk_far ?_ NB1421_1432.out _; (with_reducible repeat (first | refine blk_drewN ?_ _ | refine blk_drew ?_ | refine blk_alloc ?_ _)); refine blk_far ?_ NB1421_1432.out _; (with_reducible repeat (first | refine blk_drewN ?_ _ | refine blk_drew ?_ | refine blk_alloc ?_ _)); exact BK1421.out⟩, ⟨by (with_reducible repeat (first | refine blk_drewN ?_ _ | refine blk_drew ?_ | refine blk_alloc ?_ _)); refine blk_put (cs := #[.int .i64 t1446, .slice Ao48 t1447.length co48, .slice Ao49 t1450.length co49, .slice Ao45 x1433003_1.length co45]) ?_ 3 _ rfl; (with_reducible repeat (first | refine blk_drewN ?_ _ | refine blk_drew ?_ | refine blk_alloc ?_ _)); refine blk_put (cs := #[.int .i64 t1446, .slice Ao48 t1447.length co48, .slice Ao44 x1433002_1.length co44, .slice Ao45 x1433003_1.length co45]) ?_ 2 _ rfl; (with_reducible repeat (first | refine blk_drewN ?_ _ | refine blk_drew ?_ | refine blk_alloc ?_ _)); refine blk_put (cs := #[.int .i64 t1446, .slice Ao43 x1433001_1.length co43, .slice Ao44 x1433002_1.length co44, .slice Ao45 x1433003_1.length co45]) ?_ 1 _ rfl; (with_reducible repeat (first | refine blk_drewN ?_ _ | refine blk_drew ?_ | refine blk_alloc ?_ _)); refine blk_put (cs := #[.int .i64 x1433000_1, .slice Ao43 x1433001_1.length co43, .slice Ao44 x1433002_1.length co44, .slice Ao45 x1433003_1.length co45]) ?_ 0 _ rfl; (with_reducible repeat (first | refine blk_drewN ?_ _ | refine blk_drew ?_ | refine blk_alloc ?_ _)); exact BK1432.out⟩, ⟨hb_ HB.out⟩⟩
        ·
         rw [if_neg c36] at H
         have c36b0 : decide ((wrap64 (a1 - (rd l0_2 x7_1))) < 0) = false := decide_eq_false c36
         clear c36
         have H' := Aside0.mk H
         clear H
         have hnb51 := NB1420_1421.out
         have hnc51 := NB1421_1420.out
         have hnb52 := NB1420_1432.out
         have hnc52 := NB1432_1420.out
         have hcz53_0 : wr.cell? ⟨gb1420, 0, none⟩ = some (.int .i64 a0_0) := (blk_cell BK1420.out 0).trans rfl
         have hcz53_1 : wr.cell? ⟨gb1420, 1, none⟩ = some (.slice A0_1 l0_1.length c0_1) := (blk_cell BK1420.out 1).trans rfl
         have hcz53_2 : wr.cell? ⟨gb1420, 2, none⟩ = some (.slice A0_2 l0_2.length c0_2) := (blk_cell BK1420.out 2).trans rfl
         have hcz53_3 : wr.cell? ⟨gb1420, 3, none⟩ = some (.slice A0_3 l0_3.length c0_3) := (blk_cell BK1420.out 3).trans rfl
         have hfz53_0 := blk_frozen BK1420.out 0
         have hfz53_1 := blk_frozen BK1420.out 1
         have hfz53_2 := blk_frozen BK1420.out 2
         have hfz53_3 := blk_frozen BK1420.out 3
         have p1433 : 0 ≤ (x7_1 : Int) := of_decide_eq_true (by first | (with_reducible assumption) | assumption)
         have q1433 : x7_1 < (l0_2.length : Int) := of_decide_eq_true (by first | (with_reducible assumption) | assumption)
         obtain ⟨ad1433, e1433, hx1433_0⟩ := Kd.at_int HR0_2.out x7_1 p1433 q1433
         cases e1433
         replace hx1433_0 := (HB.out.cell (World.block_lt_of_cell? w _ hx1433_0)).trans hx1433_0
         replace p1433 := eq_true p1433
         replace q1433 := eq_true q1433
         have p1434 : 0 ≤ (x7_1 : Int) := of_decide_eq_true (by first | (with_reducible assumption) | assumption)
         have q1434 : x7_1 < (l0_2.length : Int) := of_decide_eq_true (by first | (with_reducible assumption) | assumption)
         obtain ⟨ad1434, e1434, hx1434_0⟩ := Kd.at_int HR0_2.out x7_1 p1434 q1434
         obtain rfl : ad1433 = ad1434 := (by injection e1434)
         replace hx1434_0 := (HB.out.cell (World.block_lt_of_cell? w _ hx1434_0)).trans hx1434_0
         replace p1434 := eq_true p1434
         replace q1434 := eq_true q1434
         have p1445 : 0 ≤ (x7_1 : Int) := of_decide_eq_true (by first | (with_reducible assumption) | assumption)
         have q1445 : x7_1 < (l0_2.length : Int) := of_decide_eq_true (by first | (with_reducible assumption) | assumption)
         obtain ⟨ad1445, e1445, hx1445_0⟩ := Kd.at_int HR0_2.out x7_1 p1445 q1445
         obtain rfl : ad1433 = ad1445 := (by injection e1445)
         replace hx1445_0 := (HB.out.cell (World.block_lt_of_cell? w _ hx1445_0)).trans hx1445_0
         replace p1445 := eq_true p1445
         replace q1445 := eq_true q1445
         go_wp2
         go_roundg k1
         case measure => have := HK1.out; omega
         case rel => exact ⟨(x6_1), (wrap64 (x7_1 - 1)), (x1433000_1), (x1433001_1), (x1433002_1), (x1433003_1), (u1433001), (u1433002), (u1433003), (by first | rfl | (simp; done) | (simp [*]; done)), (by first | rfl | (simp; done) | (simp [*]; done)), H', ⟨by have := HK1.out; omega⟩, ⟨rq_ HO_1433001.out⟩, ⟨rq_ HO_1433002.out⟩, ⟨rq_ HO_1433003.out⟩, ⟨bq_ BK1420.out⟩, ⟨bq_ BK1421.out⟩, ⟨bq_ BK1432.out⟩, ⟨hb_ HB.out⟩⟩
      ·
       rw [if_neg c20] at H
       have c20b0 : decide ((rd l0_2 x7_1) < a1) = false := decide_eq_false c20
       clear c20
       have H' := Aside0.mk H
       clear H
       have hnb54 := NB1420_1421.out
       have hnc54 := NB1421_1420.out
       have hnb55 := NB1420_1432.out
       have hnc55 := NB1432_1420.out
       have hcz56_0 : wr.cell? ⟨gb1420, 0, none⟩ = some (.int .i64 a0_0) := (blk_cell BK1420.out 0).trans rfl
       have hcz56_1 : wr.cell? ⟨gb1420, 1, none⟩ = some (.slice A0_1 l0_1.length c0_1) := (blk_cell BK1420.out 1).trans rfl
       have hcz56_2 : wr.cell? ⟨gb1420, 2, none⟩ = some (.slice A0_2 l0_2.length c0_2) := (blk_cell BK1420.out 2).trans rfl
       have hcz56_3 : wr.cell? ⟨gb1420, 3, none⟩ = some (.slice A0_3 l0_3.length c0_3) := (blk_cell BK1420.out 3).trans rfl
       have hfz56_0 := blk_frozen BK1420.out 0
       have hfz56_1 := blk_frozen BK1420.out 1
       have hfz56_2 := blk_frozen BK1420.out 2
       have hfz56_3 := blk_frozen BK1420.out 3
       have p1433 : 0 ≤ (x7_1 : Int) := of_decide_eq_true (by first | (with_reducible assumption) | assumption)
       have q1433 : x7_1 < (l0_2.length : Int) := of_decide_eq_true (by first | (with_reducible assumption) | assumption)
       obtain ⟨ad1433, e1433, hx1433_0⟩ := Kd.at_int HR0_2.out x7_1 p1433 q1433
       cases e1433
       replace hx1433_0 := (HB.out.cell (World.block_lt_of_cell? w _ hx1433_0)).trans hx1433_0
       replace p1433 := eq_true p1433
       replace q1433 := eq_true q1433
       go_wp2
       go_roundg k1
       case measure => have := HK1.out; omega
       case rel => exact ⟨(x6_1), (wrap64 (x7_1 - 1)), (x1433000_1), (x1433001_1), (x1433002_1), (x1433003_1), (u1433001), (u1433002), (u1433003), (by first | rfl | (simp; done) | (simp [*]; done)), (by first | rfl | (simp; done) | (simp [*]; done)), H', ⟨by have := HK1.out; omega⟩, ⟨rq_ HO_1433001.out⟩, ⟨rq_ HO_1433002.out⟩, ⟨rq_ HO_1433003.out⟩, ⟨bq_ BK1420.out⟩, ⟨bq_ BK1421.out⟩, ⟨bq_ BK1432.out⟩, ⟨hb_ HB.out⟩⟩
     ·
      rw [if_neg c19] at H
      exact absurd H (by simp)
    ·
     rw [if_neg c18] at H
     have c18b0 : decide (x7_1 < (l0_2.length : Int)) = false := decide_eq_false c18
     clear c18
     have H' := Aside0.mk H
     clear H
     have hnb57 := NB1420_1421.out
     have hnc57 := NB1421_1420.out
     have hnb58 := NB1420_1432.out
     have hnc58 := NB1432_1420.out
     have hcz59_0 : wr.cell? ⟨gb1420, 0, none⟩ = some (.int .i64 a0_0) := (blk_cell BK1420.out 0).trans rfl
     have hcz59_1 : wr.cell? ⟨gb1420, 1, none⟩ = some (.slice A0_1 l0_1.length c0_1) := (blk_cell BK1420.out 1).trans rfl
     have hcz59_2 : wr.cell? ⟨gb1420, 2, none⟩ = some (.slice A0_2 l0_2.length c0_2) := (blk_cell BK1420.out 2).trans rfl
     have hcz59_3 : wr.cell? ⟨gb1420, 3, none⟩ = some (.slice A0_3 l0_3.length c0_3) := (blk_cell BK1420.out 3).trans rfl
     have hfz59_0 := blk_frozen BK1420.out 0
     have hfz59_1 := blk_frozen BK1420.out 1
     have hfz59_2 := blk_frozen BK1420.out 2
     have hfz59_3 := blk_frozen BK1420.out 3
     go_wp2
     go_roundg k1
     case measure => have := HK1.out; omega
     case rel => exact ⟨(x6_1), (wrap64 (x7_1 - 1)), (x1433000_1), (x1433001_1), (x1433002_1), (x1433003_1), (u1433001), (u1433002), (u1433003), (by first | rfl | (simp; done) | (simp [*]; done)), (by first | rfl | (simp; done) | (simp [*]; done)), H', ⟨by have := HK1.out; omega⟩, ⟨rq_ HO_1433001.out⟩, ⟨rq_ HO_1433002.out⟩, ⟨rq_ HO_1433003.out⟩, ⟨bq_ BK1420.out⟩, ⟨bq_ BK1421.out⟩, ⟨bq_ BK1432.out⟩, ⟨hb_ HB.out⟩⟩
   ·
    rw [if_neg c17] at H
    have c17b0 : decide (0 ≤ x7_1) = false := decide_eq_false c17
    clear c17
    by_cases c60 : x6_1 = true
    ·
     subst c60
     have H1 : ((spec_l5Up.f a0_0).bind fun t1456 => (some (t1456, x1433001_1, x1433002_1, x1433003_1))) = some (r1, r2, r3, r4) := by rw [if_pos rfl] at H; exact H
     clear H
     have H := H1
     clear H1
     replace H := Option.bind_eq_some_iff.mp H
     obtain ⟨t1456, A610, H⟩ := H
     replace H : (some (t1456, x1433001_1, x1433002_1, x1433003_1)) = some (r1, r2, r3, r4) := H
     have A61 := Aside0.mk A610
     clear A610
     simp only [Option.some.injEq, Prod.mk.injEq] at H
     obtain ⟨rfl, rfl, rfl, rfl⟩ := H
     have hnb62 := NB1420_1421.out
     have hnc62 := NB1421_1420.out
     have hnb63 := NB1420_1432.out
     have hnc63 := NB1432_1420.out
     have hcz64_0 : wr.cell? ⟨gb1420, 0, none⟩ = some (.int .i64 a0_0) := (blk_cell BK1420.out 0).trans rfl
     have hcz64_1 : wr.cell? ⟨gb1420, 1, none⟩ = some (.slice A0_1 l0_1.length c0_1) := (blk_cell BK1420.out 1).trans rfl
     have hcz64_2 : wr.cell? ⟨gb1420, 2, none⟩ = some (.slice A0_2 l0_2.length c0_2) := (blk_cell BK1420.out 2).trans rfl
     have hcz64_3 : wr.cell? ⟨gb1420, 3, none⟩ = some (.slice A0_3 l0_3.length c0_3) := (blk_cell BK1420.out 3).trans rfl
     have hfz64_0 := blk_frozen BK1420.out 0
     have hfz64_1 := blk_frozen BK1420.out 1
     have hfz64_2 := blk_frozen BK1420.out 2
     have hfz64_3 := blk_frozen BK1420.out 3
     go_wp2_with (first | ((with_reducible refine gate_callee (f := 178) rfl ?_); refine goesL_ (some 58) rfl rfl Try.func178 (by kernel_rfl) rfl #[.int .i64 a0_0] rfl sm_ ?_; (with_reducible refine (spec_l5Up.calls a0_0 t1456 _ A61.out).mono ?_); rintro e w' ⟨rfl, ⟨nd, rfl⟩⟩; refine ⟨_, rfl, ?_⟩; (try (rw [drewN_self wr]; generalize hq_ : World.drewN wr _ = wr; have n0_ : Aside0 (Kd.R (Kd.int .i64) 3 wr w.heap.size (fun k_ => some k_ ≠ (u1433002 : Value).ownBlock ∧ some k_ ≠ (u1433003 : Value).ownBlock) u1433001 x1433001_1) := ⟨by rw [← hq_]; exact (rq_ HO_1433001.out)⟩; have n1_ : Aside0 (Kd.R (Kd.int .i64) 3 wr w.heap.size (fun k_ => some k_ ≠ (u1433001 : Value).ownBlock ∧ some k_ ≠ (u1433003 : Value).ownBlock) u1433002 x1433002_1) := ⟨by rw [← hq_]; exact (rq_ HO_1433002.out)⟩; have n2_ : Aside0 (Kd.R (Kd.int .i64) 3 wr w.heap.size (fun k_ => some k_ ≠ (u1433001 : Value).ownBlock ∧ some k_ ≠ (u1433002 : Value).ownBlock) u1433003 x1433003_1) := ⟨by rw [← hq_]; exact (rq_ HO_1433003.out)⟩; have n3_ : Aside0 (wr.heap[gb1420]? = some (.cells #[.int .i64 a0_0, .slice A0_1 l0_1.length c0_1, .slice A0_2 l0_2.length c0_2, .slice A0_3 l0_3.length c0_3] 26 (0, 0))) := ⟨by rw [← hq_]; exact (bq_ BK1420.out)⟩; have n4_ : Aside0 (wr.heap[gb1421]? = some (.cells #[.int .i64 0, .slice none 0 0, .slice none 0 0, .slice none 0 0] 26 (0, 0))) := ⟨by rw [← hq_]; exact (bq_ BK1421.out)⟩; have n5_ : Aside0 (wr.heap[gb1432]? = some (.cells #[.int .i64 x1433000_1, u1433001, u1433002, u1433003] 26 (0, 0))) := ⟨by rw [← hq_]; exact (bq_ BK1432.out)⟩; have n6_ : Aside0 (Below w.heap.size w wr) := ⟨by rw [← hq_]; exact (hb_ HB.out)⟩; clear HO_1433001 HO_1433002 HO_1433003 BK1420 BK1421 BK1432 HB hq_; have HO_1433001 := n0_; have HO_1433002 := n1_; have HO_1433003 := n2_; have BK1420 := n3_; have BK1421 := n4_; have BK1432 := n5_; have HB := n6_; clear n0_ n1_ n2_ n3_ n4_ n5_ n6_)); have hnb65 := NB1432_1421.out; have hnc65 := NB1421_1432.out; have hcz66_0 : wr.cell? ⟨gb1432, 0, none⟩ = some (.int .i64 x1433000_1) := (blk_cell BK1432.out 0).trans rfl; have hcz66_1 : wr.cell? ⟨gb1432, 1, none⟩ = some (u1433001) := (blk_cell BK1432.out 1).trans rfl; have hcz66_2 : wr.cell? ⟨gb1432, 2, none⟩ = some (u1433002) := (blk_cell BK1432.out 2).trans rfl; have hcz66_3 : wr.cell? ⟨gb1432, 3, none⟩ = some (u1433003) := (blk_cell BK1432.out 3).trans rfl; have hfz66_0 := blk_frozen BK1432.out 0; have hfz66_1 := blk_frozen BK1432.out 1; have hfz66_2 := blk_frozen BK1432.out 2; have hfz66_3 := blk_frozen BK1432.out 3; have hcz67_0 : wr.cell? ⟨gb1421, 0, none⟩ = some (.int .i64 0) := (blk_cell BK1421.out 0).trans rfl; have hcz67_1 : wr.cell? ⟨gb1421, 1, none⟩ = some (.slice none 0 0) := (blk_cell BK1421.out 1).trans rfl; have hcz67_2 : wr.cell? ⟨gb1421, 2, none⟩ = some (.slice none 0 0) := (blk_cell BK1421.out 2).trans rfl; have hcz67_3 : wr.cell? ⟨gb1421, 3, none⟩ = some (.slice none 0 0) := (blk_cell BK1421.out 3).trans rfl; have hfz67_0 := blk_frozen BK1421.out 0; have hfz67_1 := blk_frozen BK1421.out 1; have hfz67_2 := blk_frozen BK1421.out 2; have hfz67_3 := blk_frozen BK1421.out 3; obtain ⟨Ao68, co68, eo68⟩ := Kd.R_slice HO_1433001.out; subst eo68; obtain ⟨Ao69, co69, eo69⟩ := Kd.R_slice HO_1433002.out; subst eo69; obtain ⟨Ao70, co70, eo70⟩ := Kd.R_slice HO_1433003.out; subst eo70))
     refine bodyPost_ret (results_cell_row rfl _ _ gb1421 26 #[.int .i64 t1456, .slice Ao68 x1433001_1.length co68, .slice Ao69 x1433002_1.length co69, .slice Ao70 x1433003_1.length co70] (0, 0) _ rfl (by (with_reducible repeat (first | refine blk_drewN ?_ _ | refine blk_drew ?_ | refine blk_alloc ?_ _)); refine blk_put (cs := #[.int .i64 t1456, .slice Ao68 x1433001_1.length co68, .slice Ao69 x1433002_1.length co69, .slice none 0 0]) ?_ 3 _ rfl; (with_reducible repeat (first | refine blk_drewN ?_ _ | refine blk_drew ?_ | refine blk_alloc ?_ _)); refine blk_put (cs := #[.int .i64 t1456, .slice Ao68 x1433001_1.length co68, .slice none 0 0, .slice none 0 0]) ?_ 2 _ rfl; (with_reducible repeat (first | refine blk_drewN ?_ _ | refine blk_drew ?_ | refine blk_alloc ?_ _)); refine blk_put (cs := #[.int .i64 t1456, .slice none 0 0, .slice none 0 0, .slice none 0 0]) ?_ 1 _ rfl; (with_reducible repeat (first | refine blk_drewN ?_ _ | refine blk_drew ?_ | refine blk_alloc ?_ _)); refine blk_put (cs := #[.int .i64 0, .slice none 0 0, .slice none 0 0, .slice none 0 0]) ?_ 0 _ rfl; (with_reducible repeat (first | refine blk_drewN ?_ _ | refine blk_drew ?_ | refine blk_alloc ?_ _)); refine blk_far ?_ NB1421_1432.out _; (with_reducible repeat (first | refine blk_drewN ?_ _ | refine blk_drew ?_ | refine blk_alloc ?_ _)); exact BK1421.out) Try.underlying26 rfl (by kernel_rfl)) rfl ?_
     exact ⟨_, _, _, er_, by (with_reducible repeat (first | apply Kd.R_alloc | apply Kd.R_drewN | apply Kd.R_drew)); exact Kd.R_mono (Kd.R_far (p := ⟨gb1421, 3, none⟩) (Kd.R_far (p := ⟨gb1421, 2, none⟩) (Kd.R_far (p := ⟨gb1421, 1, none⟩) (Kd.R_far (p := ⟨gb1421, 0, none⟩) (Kd.R_far (p := ⟨gb1432, 0, none⟩) (Kd.R_types (Kd.R_types HO_1433001.out BK1432.out (by decide)) BK1421.out (by decide)) (fun _ hk => hk.1.2) (.int .i64 t1456)) (fun _ hk => hk.2) (.int .i64 t1456)) (fun _ hk => hk.2) (.slice Ao68 x1433001_1.length co68)) (fun _ hk => hk.2) (.slice Ao69 x1433002_1.length co69)) (fun _ hk => hk.2) (.slice Ao70 x1433003_1.length co70)) (fun _ hk => ⟨hk.1.1.1, hk.1.1.2⟩), by (with_reducible repeat (first | apply Kd.R_alloc | apply Kd.R_drewN | apply Kd.R_drew)); exact Kd.R_mono (Kd.R_far (p := ⟨gb1421, 3, none⟩) (Kd.R_far (p := ⟨gb1421, 2, none⟩) (Kd.R_far (p := ⟨gb1421, 1, none⟩) (Kd.R_far (p := ⟨gb1421, 0, none⟩) (Kd.R_far (p := ⟨gb1432, 0, none⟩) (Kd.R_types (Kd.R_types HO_1433002.out BK1432.out (by decide)) BK1421.out (by decide)) (fun _ hk => hk.1.2) (.int .i64 t1456)) (fun _ hk => hk.2) (.int .i64 t1456)) (fun _ hk => hk.2) (.slice Ao68 x1433001_1.length co68)) (fun _ hk => hk.2) (.slice Ao69 x1433002_1.length co69)) (fun _ hk => hk.2) (.slice Ao70 x1433003_1.length co70)) (fun _ hk => ⟨hk.1.1.1, hk.1.1.2⟩), by (with_reducible repeat (first | apply Kd.R_alloc | apply Kd.R_drewN | apply Kd.R_drew)); exact Kd.R_mono (Kd.R_far (p := ⟨gb1421, 3, none⟩) (Kd.R_far (p := ⟨gb1421, 2, none⟩) (Kd.R_far (p := ⟨gb1421, 1, none⟩) (Kd.R_far (p := ⟨gb1421, 0, none⟩) (Kd.R_far (p := ⟨gb1432, 0, none⟩) (Kd.R_types (Kd.R_types HO_1433003.out BK1432.out (by decide)) BK1421.out (by decide)) (fun _ hk => hk.1.2) (.int .i64 t1456)) (fun _ hk => hk.2) (.int .i64 t1456)) (fun _ hk => hk.2) (.slice Ao68 x1433001_1.length co68)) (fun _ hk => hk.2) (.slice Ao69 x1433002_1.length co69)) (fun _ hk => hk.2) (.slice Ao70 x1433003_1.length co70)) (fun _ hk => ⟨hk.1.1.1, hk.1.1.2⟩), hb_ HB.out⟩
    ·
     replace c60 := Bool.eq_false_iff.mpr c60
     subst c60
     have H1 : (some (x1433000_1, x1433001_1, x1433002_1, x1433003_1)) = some (r1, r2, r3, r4) := by rw [if_neg (show ¬ (false = true) by decide)] at H; exact H
     clear H
     have H := H1
     clear H1
     simp only [Option.some.injEq, Prod.mk.injEq] at H
     obtain ⟨rfl, rfl, rfl, rfl⟩ := H
     have hnb71 := NB1432_1420.out
     have hnc71 := NB1420_1432.out
     have hnb72 := NB1432_1421.out
     have hnc72 := NB1421_1432.out
     have hcz73_0 : wr.cell? ⟨gb1432, 0, none⟩ = some (.int .i64 x1433000_1) := (blk_cell BK1432.out 0).trans rfl
     have hcz73_1 : wr.cell? ⟨gb1432, 1, none⟩ = some (u1433001) := (blk_cell BK1432.out 1).trans rfl
     have hcz73_2 : wr.cell? ⟨gb1432, 2, none⟩ = some (u1433002) := (blk_cell BK1432.out 2).trans rfl
     have hcz73_3 : wr.cell? ⟨gb1432, 3, none⟩ = some (u1433003) := (blk_cell BK1432.out 3).trans rfl
     have hfz73_0 := blk_frozen BK1432.out 0
     have hfz73_1 := blk_frozen BK1432.out 1
     have hfz73_2 := blk_frozen BK1432.out 2
     have hfz73_3 := blk_frozen BK1432.out 3
     have hnb74 := NB1421_1420.out
     have hnc74 := NB1420_1421.out
     have hcz75_0 : wr.cell? ⟨gb1421, 0, none⟩ = some (.int .i64 0) := (blk_cell BK1421.out 0).trans rfl
     have hcz75_1 : wr.cell? ⟨gb1421, 1, none⟩ = some (.slice none 0 0) := (blk_cell BK1421.out 1).trans rfl
     have hcz75_2 : wr.cell? ⟨gb1421, 2, none⟩ = some (.slice none 0 0) := (blk_cell BK1421.out 2).trans rfl
     have hcz75_3 : wr.cell? ⟨gb1421, 3, none⟩ = some (.slice none 0 0) := (blk_cell BK1421.out 3).trans rfl
     have hfz75_0 := blk_frozen BK1421.out 0
     have hfz75_1 := blk_frozen BK1421.out 1
     have hfz75_2 := blk_frozen BK1421.out 2
     have hfz75_3 := blk_frozen BK1421.out 3
     obtain ⟨Ao76, co76, eo76⟩ := Kd.R_slice HO_1433001.out
     subst eo76
     obtain ⟨Ao77, co77, eo77⟩ := Kd.R_slice HO_1433002.out
     subst eo77
     obtain ⟨Ao78, co78, eo78⟩ := Kd.R_slice HO_1433003.out
     subst eo78
     go_wp2
     refine bodyPost_ret (results_cell_row rfl _ _ gb1421 26 #[.int .i64 x1433000_1, .slice Ao76 x1433001_1.length co76, .slice Ao77 x1433002_1.length co77, .slice Ao78 x1433003_1.length co78] (0, 0) _ rfl (bp_ BK1421.out) Try.underlying26 rfl (by kernel_rfl)) rfl ?_
     exact ⟨_, _, _, er_, by (with_reducible repeat (first | apply Kd.R_alloc | apply Kd.R_drewN | apply Kd.R_drew)); exact Kd.R_mono (Kd.R_far (p := ⟨gb1421, 3, none⟩) (Kd.R_far (p := ⟨gb1421, 2, none⟩) (Kd.R_far (p := ⟨gb1421, 1, none⟩) (Kd.R_far (p := ⟨gb1421, 0, none⟩) (Kd.R_types HO_1433001.out BK1421.out (by decide)) (fun _ hk => hk.2) (.int .i64 x1433000_1)) (fun _ hk => hk.2) (.slice Ao76 x1433001_1.length co76)) (fun _ hk => hk.2) (.slice Ao77 x1433002_1.length co77)) (fun _ hk => hk.2) (.slice Ao78 x1433003_1.length co78)) (fun _ hk => ⟨hk.1.1, hk.1.2⟩), by (with_reducible repeat (first | apply Kd.R_alloc | apply Kd.R_drewN | apply Kd.R_drew)); exact Kd.R_mono (Kd.R_far (p := ⟨gb1421, 3, none⟩) (Kd.R_far (p := ⟨gb1421, 2, none⟩) (Kd.R_far (p := ⟨gb1421, 1, none⟩) (Kd.R_far (p := ⟨gb1421, 0, none⟩) (Kd.R_types HO_1433002.out BK1421.out (by decide)) (fun _ hk => hk.2) (.int .i64 x1433000_1)) (fun _ hk => hk.2) (.slice Ao76 x1433001_1.length co76)) (fun _ hk => hk.2) (.slice Ao77 x1433002_1.length co77)) (fun _ hk => hk.2) (.slice Ao78 x1433003_1.length co78)) (fun _ hk => ⟨hk.1.1, hk.1.2⟩), by (with_reducible repeat (first | apply Kd.R_alloc | apply Kd.R_drewN | apply Kd.R_drew)); exact Kd.R_mono (Kd.R_far (p := ⟨gb1421, 3, none⟩) (Kd.R_far (p := ⟨gb1421, 2, none⟩) (Kd.R_far (p := ⟨gb1421, 1, none⟩) (Kd.R_far (p := ⟨gb1421, 0, none⟩) (Kd.R_types HO_1433003.out BK1421.out (by decide)) (fun _ hk => hk.2) (.int .i64 x1433000_1)) (fun _ hk => hk.2) (.slice Ao76 x1433001_1.length co76)) (fun _ hk => hk.2) (.slice Ao77 x1433002_1.length co77)) (fun _ hk => hk.2) (.slice Ao78 x1433003_1.length co78)) (fun _ hk => ⟨hk.1.1, hk.1.2⟩), hb_ HB.out⟩
end Go.Proofs.Ytiknkolclcdajaa.Q
