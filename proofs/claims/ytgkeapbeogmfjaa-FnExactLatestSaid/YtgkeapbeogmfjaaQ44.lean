/- Made by a program of ours out of the print of the loaded functions: for each of some functions a plain function, and the walk that shows that a call comes to what it says. No condition but those of each theorem. -/
import Derived.Test.YtgkeapbeogmfjaaQ0
namespace Go.Proofs.Ytgkeapbeogmfjaa.Q
open Go.RowKit Go.Proofs.YtgkeapbeogmfjaaW.PrintWords Go.Proofs.YtgkeapbeogmfjaaW.PrintLast Go.Proofs.YtgkeapbeogmfjaaW.PrintMore
attribute [local go_sem] max2_int min2_int max_two min_two max_three min_three max_four min_four   -- for this text's walks alone
set_option linter.unusedVariables false
set_option linter.unusedSimpArgs false

/-! ### impl_RowGet: function 32 -/
def impl_RowGet.l0 : Nat → Int → List (S_Item) → Int → Int → Option (Int × ByteArray × ByteArray × Int × Int × Int)
  | 0, _, _, _, _ => none
  | k + 1, x1, x14, x15, x16 => if x16 < x15 then (if 0 ≤ x16 then (if x16 < (x14.length : Int) then (if ((rd_Item x14 x16).f0) ≥ x1 then (some ((rd_Item x14 x16).f0, (rd_Item x14 x16).f1, (rd_Item x14 x16).f2, (rd_Item x14 x16).f3, (rd_Item x14 x16).f4, 0)) else (impl_RowGet.l0 k x1 x14 x15 (wrap64 (x16 + 1)))) else (none)) else (none)) else (some (0, (⟨#[]⟩ : ByteArray), (⟨#[]⟩ : ByteArray), 0, 0, 2))
def impl_RowGet.f (k : Nat) (a0_0 : Int) (a0_1 : Int) (l0_2 : List (S_Item)) (a1 : Int) : Option (Int × ByteArray × ByteArray × Int × Int × Int) := if a1 < a0_0 then (some (0, (⟨#[]⟩ : ByteArray), (⟨#[]⟩ : ByteArray), 0, 0, 1)) else (impl_RowGet.l0 k a1 l0_2 (l0_2.length : Int) 0)
theorem impl_RowGet.mono_l : ∀ k, (∀ y0 y1 y2 y3, LeO (impl_RowGet.l0 k y0 y1 y2 y3) (impl_RowGet.l0 (k + 1) y0 y1 y2 y3))
  | 0 => fun _ _ _ _ r h => by simp [impl_RowGet.l0] at h
  | k + 1 => by
    have ih0 := impl_RowGet.mono_l k
    · intro y0 y1 y2 y3
      unfold impl_RowGet.l0
      repeat' first
      | (with_reducible exact ih0 _ _ _ _)
      | (with_reducible exact LeO.refl _)
      | (with_reducible exact LeO.none _)
      | (with_reducible refine LeO.ite ?_ ?_)
      | (with_reducible refine LeO.bind ?_ (fun _ => ?_))
      | exact ih0 _ _ _ _
      | exact LeO.none _
      | refine LeO.ite ?_ ?_
      | refine LeO.bind ?_ (fun _ => ?_)
theorem impl_RowGet.mono : ∀ a0 a1 a2 a3 k, LeO (impl_RowGet.f k a0 a1 a2 a3) (impl_RowGet.f (k + 1) a0 a1 a2 a3) := by
  intro a0 a1 a2 a3 k
  have ih0 := impl_RowGet.mono_l k
  unfold impl_RowGet.f
  repeat' first
      | (with_reducible exact ih0 _ _ _ _)
      | (with_reducible exact LeO.refl _)
      | (with_reducible exact LeO.none _)
      | (with_reducible refine LeO.ite ?_ ?_)
      | (with_reducible refine LeO.bind ?_ (fun _ => ?_))
      | exact ih0 _ _ _ _
      | exact LeO.none _
      | refine LeO.ite ?_ ?_
      | refine LeO.bind ?_ (fun _ => ?_)
set_option maxHeartbeats 8000000 in
set_option maxRecDepth 100000 in
theorem impl_RowGet.calls (k : Nat) (a0_0 : Int) (a0_1 : Int) (A0_2 : Option Addr) (c0_2 : Nat) (l0_2 : List (S_Item)) (a1 : Int) (r1 : Int) (r2 : ByteArray) (r3 : ByteArray) (r4 : Int) (r5 : Int) (r6 : Int) (w : World) (hr0_2 : Kd.C k_Item w A0_2 l0_2.length l0_2) (hc0_2 : l0_2.length ≤ c0_2) (h : impl_RowGet.f k a0_0 a0_1 l0_2 a1 = some (r1, r2, r3, r4, r5, r6)) :
    Calls Try.prog 32 #[.agg #[.int .i64 a0_0, .int .i64 a0_1, .slice A0_2 l0_2.length c0_2], .int .i64 a1] w fun e w' => e = .returned (.tuple #[.agg #[.int .i64 r1, .string r2, .string r3, .int .i64 r4, .int .i64 r5], .int .i64 r6]) ∧ Below w.heap.size w w' := by
  have hu41 := Try.underlying41
  have hu36 := Try.underlying36
  have HR0_2 := Aside0.mk hr0_2
  have HC0_2 := Aside0.mk hc0_2
  clear hr0_2 hc0_2
  have HB := Aside0.mk (Below.refl w.heap.size w)
  have H : (if a1 < a0_0 then (some (0, (⟨#[]⟩ : ByteArray), (⟨#[]⟩ : ByteArray), 0, 0, 1)) else (impl_RowGet.l0 k a1 l0_2 (l0_2.length : Int) 0)) = some (r1, r2, r3, r4, r5, r6) := h
  clear h
  by_cases c3 : a1 < a0_0
  · rw [if_pos c3] at H
    have c3b0 : decide (a1 < a0_0) = true := decide_eq_true c3
    clear c3
    simp only [Option.some.injEq, Prod.mk.injEq] at H
    obtain ⟨rfl, rfl, rfl, rfl, rfl, rfl⟩ := H
    go_enter Try.func32, Try.ntmps32
    go_wp2_with (first | ((with_reducible refine gate_dst (N := 2) rfl ?_); refine box_event ?hg (N := 2) ?hd (cs := #[.int .i64 a0_0, .int .i64 a0_1, .slice A0_2 l0_2.length c0_2]) (t := 41) ?hr ?_; (case hd => rfl); (case hg => rfl); (case hr => first | (go_simp; done) | (go_simp; rfl)); intro gb914 hg w4 hbox hb; have n0_ := Aside0.mk (below_step (by repeat (first | (with_reducible first | exact HB.out | apply below_alloc | apply pw_below_drewN | apply below_drew1) | exact HB.out)) hb); have n1_ := Aside0.mk (hbox); have n2_ := Aside0.mk ((by rw [hg]; exact (below_size (by repeat (first | (with_reducible first | exact HB.out | apply below_alloc | apply pw_below_drewN | apply below_drew1) | exact HB.out))) : w.heap.size ≤ gb914)); have n3_ := Aside0.mk ((by rw [hg]; exact (below_size (by repeat (first | (with_reducible first | exact HB.out | apply below_alloc | apply pw_below_drewN | apply below_drew1) | exact HB.out))) : w.heap.size ≤ gb914)); clear HB; have HB := n0_; have BK914 := n1_; have GW914 := n2_; have GE914 := n3_; clear n0_ n1_ n2_ n3_; clear hb hbox hg) | ((with_reducible refine gate_dst (N := 4) rfl ?_); refine box_event ?hg (N := 4) ?hd (cs := #[.int .i64 0, .string (⟨#[]⟩ : ByteArray), .string (⟨#[]⟩ : ByteArray), .int .i64 0, .int .i64 0]) (t := 36) ?hr ?_; (case hd => rfl); (case hg => rfl); (case hr => first | (go_simp; done) | (go_simp; rfl)); intro gb915 hg w5 hbox hb; have n0_ := Aside0.mk (blk_below (g := gb914) (o := .cells #[.int .i64 a0_0, .int .i64 a0_1, .slice A0_2 l0_2.length c0_2] 41 (0, 0)) (by (with_reducible repeat (first | refine blk_drewN ?_ _ | refine blk_drew ?_ | refine blk_alloc ?_ _)); exact BK914.out) hb); have n1_ := Aside0.mk (below_step (by repeat (first | (with_reducible first | exact HB.out | apply below_alloc | apply pw_below_drewN | apply below_drew1 | refine below_set ?_ GE914.out) | exact HB.out)) hb); have n2_ := Aside0.mk (hbox); have n3_ := Aside0.mk ((by rw [hg]; exact (below_size (by repeat (first | (with_reducible first | exact HB.out | apply below_alloc | apply pw_below_drewN | apply below_drew1 | refine below_set ?_ GE914.out) | exact HB.out))) : w.heap.size ≤ gb915)); have n4_ := Aside0.mk ((by rw [hg]; exact (below_size (by repeat (first | (with_reducible first | exact HB.out | apply below_alloc | apply pw_below_drewN | apply below_drew1 | refine below_set ?_ GE914.out) | exact HB.out))) : w.heap.size ≤ gb915)); have n5_ := Aside0.mk ((by rw [hg]; exact Nat.ne_of_lt (blk_lt (g := gb914) (o := .cells #[.int .i64 a0_0, .int .i64 a0_1, .slice A0_2 l0_2.length c0_2] 41 (0, 0)) (by (with_reducible repeat (first | refine blk_drewN ?_ _ | refine blk_drew ?_ | refine blk_alloc ?_ _)); exact BK914.out)) : gb914 ≠ gb915)); have n6_ := Aside0.mk ((by rw [hg]; exact Nat.ne_of_gt (blk_lt (g := gb914) (o := .cells #[.int .i64 a0_0, .int .i64 a0_1, .slice A0_2 l0_2.length c0_2] 41 (0, 0)) (by (with_reducible repeat (first | refine blk_drewN ?_ _ | refine blk_drew ?_ | refine blk_alloc ?_ _)); exact BK914.out)) : gb915 ≠ gb914)); clear BK914; clear HB; have BK914 := n0_; have HB := n1_; have BK915 := n2_; have GW915 := n3_; have GE915 := n4_; have NB914_915 := n5_; have NB915_914 := n6_; clear n0_ n1_ n2_ n3_ n4_ n5_ n6_; clear hb hbox hg; have hnb6 := NB914_915.out; have hnc6 := NB915_914.out; have hcz7_0 : w5.cell? ⟨gb914, 0, none⟩ = some (.int .i64 a0_0) := (blk_cell BK914.out 0).trans rfl; have hcz7_1 : w5.cell? ⟨gb914, 1, none⟩ = some (.int .i64 a0_1) := (blk_cell BK914.out 1).trans rfl; have hcz7_2 : w5.cell? ⟨gb914, 2, none⟩ = some (.slice A0_2 l0_2.length c0_2) := (blk_cell BK914.out 2).trans rfl; have hfz7_0 := blk_frozen BK914.out 0; have hfz7_1 := blk_frozen BK914.out 1; have hfz7_2 := blk_frozen BK914.out 2; have hcz8_0 : w5.cell? ⟨gb915, 0, none⟩ = some (.int .i64 0) := (blk_cell BK915.out 0).trans rfl; have hcz8_1 : w5.cell? ⟨gb915, 1, none⟩ = some (.string (⟨#[]⟩ : ByteArray)) := (blk_cell BK915.out 1).trans rfl; have hcz8_2 : w5.cell? ⟨gb915, 2, none⟩ = some (.string (⟨#[]⟩ : ByteArray)) := (blk_cell BK915.out 2).trans rfl; have hcz8_3 : w5.cell? ⟨gb915, 3, none⟩ = some (.int .i64 0) := (blk_cell BK915.out 3).trans rfl; have hcz8_4 : w5.cell? ⟨gb915, 4, none⟩ = some (.int .i64 0) := (blk_cell BK915.out 4).trans rfl; have hfz8_0 := blk_frozen BK915.out 0; have hfz8_1 := blk_frozen BK915.out 1; have hfz8_2 := blk_frozen BK915.out 2; have hfz8_3 := blk_frozen BK915.out 3; have hfz8_4 := blk_frozen BK915.out 4))
    refine bodyPost_ret (results_ct rfl _ _ gb915 36 #[.int .i64 0, .string (⟨#[]⟩ : ByteArray), .string (⟨#[]⟩ : ByteArray), .int .i64 0, .int .i64 0] (0, 0) _ rfl (by (with_reducible repeat (first | refine blk_drewN ?_ _ | refine blk_drew ?_ | refine blk_alloc ?_ _)); refine blk_put (cs := #[.int .i64 0, .string (⟨#[]⟩ : ByteArray), .string (⟨#[]⟩ : ByteArray), .int .i64 0, .int .i64 0]) ?_ 4 _ rfl; (with_reducible repeat (first | refine blk_drewN ?_ _ | refine blk_drew ?_ | refine blk_alloc ?_ _)); refine blk_put (cs := #[.int .i64 0, .string (⟨#[]⟩ : ByteArray), .string (⟨#[]⟩ : ByteArray), .int .i64 0, .int .i64 0]) ?_ 3 _ rfl; (with_reducible repeat (first | refine blk_drewN ?_ _ | refine blk_drew ?_ | refine blk_alloc ?_ _)); refine blk_put (cs := #[.int .i64 0, .string (⟨#[]⟩ : ByteArray), .string (⟨#[]⟩ : ByteArray), .int .i64 0, .int .i64 0]) ?_ 2 _ rfl; (with_reducible repeat (first | refine blk_drewN ?_ _ | refine blk_drew ?_ | refine blk_alloc ?_ _)); refine blk_put (cs := #[.int .i64 0, .string (⟨#[]⟩ : ByteArray), .string (⟨#[]⟩ : ByteArray), .int .i64 0, .int .i64 0]) ?_ 1 _ rfl; (with_reducible repeat (first | refine blk_drewN ?_ _ | refine blk_drew ?_ | refine blk_alloc ?_ _)); refine blk_put (cs := #[.int .i64 0, .string (⟨#[]⟩ : ByteArray), .string (⟨#[]⟩ : ByteArray), .int .i64 0, .int .i64 0]) ?_ 0 _ rfl; (with_reducible repeat (first | refine blk_drewN ?_ _ | refine blk_drew ?_ | refine blk_alloc ?_ _)); exact BK915.out) Try.underlying36 rfl (by kernel_rfl)) rfl ?_
    exact ⟨by first | rfl | (simp [errW_none, errW_some] <;> rfl) | (simp [*, errW_none, errW_some] <;> rfl), by repeat (first | (with_reducible first | exact HB.out | apply below_alloc | apply pw_below_drewN | apply below_drew1 | refine below_set ?_ GE914.out | refine below_set ?_ GE915.out) | exact HB.out)⟩
  · rw [if_neg c3] at H
    have c3b0 : decide (a1 < a0_0) = false := decide_eq_false c3
    clear c3
    have H' := Aside0.mk H
    clear H
    go_enter Try.func32, Try.ntmps32
    go_wp2_with (first | ((with_reducible refine gate_dst (N := 2) rfl ?_); refine box_event ?hg (N := 2) ?hd (cs := #[.int .i64 a0_0, .int .i64 a0_1, .slice A0_2 l0_2.length c0_2]) (t := 41) ?hr ?_; (case hd => rfl); (case hg => rfl); (case hr => first | (go_simp; done) | (go_simp; rfl)); intro gb914 hg w9 hbox hb; have n0_ := Aside0.mk (below_step (by repeat (first | (with_reducible first | exact HB.out | apply below_alloc | apply pw_below_drewN | apply below_drew1) | exact HB.out)) hb); have n1_ := Aside0.mk (hbox); have n2_ := Aside0.mk ((by rw [hg]; exact (below_size (by repeat (first | (with_reducible first | exact HB.out | apply below_alloc | apply pw_below_drewN | apply below_drew1) | exact HB.out))) : w.heap.size ≤ gb914)); have n3_ := Aside0.mk ((by rw [hg]; exact (below_size (by repeat (first | (with_reducible first | exact HB.out | apply below_alloc | apply pw_below_drewN | apply below_drew1) | exact HB.out))) : w.heap.size ≤ gb914)); clear HB; have HB := n0_; have BK914 := n1_; have GW914 := n2_; have GE914 := n3_; clear n0_ n1_ n2_ n3_; clear hb hbox hg) | ((with_reducible refine gate_dst (N := 4) rfl ?_); refine box_event ?hg (N := 4) ?hd (cs := #[.int .i64 0, .string (⟨#[]⟩ : ByteArray), .string (⟨#[]⟩ : ByteArray), .int .i64 0, .int .i64 0]) (t := 36) ?hr ?_; (case hd => rfl); (case hg => rfl); (case hr => first | (go_simp; done) | (go_simp; rfl)); intro gb915 hg w10 hbox hb; have n0_ := Aside0.mk (blk_below (g := gb914) (o := .cells #[.int .i64 a0_0, .int .i64 a0_1, .slice A0_2 l0_2.length c0_2] 41 (0, 0)) (by (with_reducible repeat (first | refine blk_drewN ?_ _ | refine blk_drew ?_ | refine blk_alloc ?_ _)); exact BK914.out) hb); have n1_ := Aside0.mk (below_step (by repeat (first | (with_reducible first | exact HB.out | apply below_alloc | apply pw_below_drewN | apply below_drew1 | refine below_set ?_ GE914.out) | exact HB.out)) hb); have n2_ := Aside0.mk (hbox); have n3_ := Aside0.mk ((by rw [hg]; exact (below_size (by repeat (first | (with_reducible first | exact HB.out | apply below_alloc | apply pw_below_drewN | apply below_drew1 | refine below_set ?_ GE914.out) | exact HB.out))) : w.heap.size ≤ gb915)); have n4_ := Aside0.mk ((by rw [hg]; exact (below_size (by repeat (first | (with_reducible first | exact HB.out | apply below_alloc | apply pw_below_drewN | apply below_drew1 | refine below_set ?_ GE914.out) | exact HB.out))) : w.heap.size ≤ gb915)); have n5_ := Aside0.mk ((by rw [hg]; exact Nat.ne_of_lt (blk_lt (g := gb914) (o := .cells #[.int .i64 a0_0, .int .i64 a0_1, .slice A0_2 l0_2.length c0_2] 41 (0, 0)) (by (with_reducible repeat (first | refine blk_drewN ?_ _ | refine blk_drew ?_ | refine blk_alloc ?_ _)); exact BK914.out)) : gb914 ≠ gb915)); have n6_ := Aside0.mk ((by rw [hg]; exact Nat.ne_of_gt (blk_lt (g := gb914) (o := .cells #[.int .i64 a0_0, .int .i64 a0_1, .slice A0_2 l0_2.length c0_2] 41 (0, 0)) (by (with_reducible repeat (first | refine blk_drewN ?_ _ | refine blk_drew ?_ | refine blk_alloc ?_ _)); exact BK914.out)) : gb915 ≠ gb914)); clear BK914; clear HB; have BK914 := n0_; have HB := n1_; have BK915 := n2_; have GW915 := n3_; have GE915 := n4_; have NB914_915 := n5_; have NB915_914 := n6_; clear n0_ n1_ n2_ n3_ n4_ n5_ n6_; clear hb hbox hg; have hnb11 := NB914_915.out; have hnc11 := NB915_914.out; have hcz12_0 : w10.cell? ⟨gb914, 0, none⟩ = some (.int .i64 a0_0) := (blk_cell BK914.out 0).trans rfl; have hcz12_1 : w10.cell? ⟨gb914, 1, none⟩ = some (.int .i64 a0_1) := (blk_cell BK914.out 1).trans rfl; have hcz12_2 : w10.cell? ⟨gb914, 2, none⟩ = some (.slice A0_2 l0_2.length c0_2) := (blk_cell BK914.out 2).trans rfl; have hfz12_0 := blk_frozen BK914.out 0; have hfz12_1 := blk_frozen BK914.out 1; have hfz12_2 := blk_frozen BK914.out 2))
    go_loopg [16] k (fun kq v16 w' => ∃ (x16_1 : Int) (x916000_1 : Int) (x916001_1 : ByteArray) (x916002_1 : ByteArray) (x916003_1 : Int) (x916004_1 : Int), v16 = .int .i64 x16_1 ∧ Aside0 (impl_RowGet.l0 kq a1 l0_2 (l0_2.length : Int) x16_1 = some (r1, r2, r3, r4, r5, r6)) ∧ Aside0 (kq ≤ k) ∧ Aside0 (w'.heap[gb914]? = some (.cells #[.int .i64 a0_0, .int .i64 a0_1, (.slice A0_2 l0_2.length c0_2)] 41 (0, 0))) ∧ Aside0 (w'.heap[gb915]? = some (.cells #[.int .i64 x916000_1, .string x916001_1, .string x916002_1, .int .i64 x916003_1, .int .i64 x916004_1] 36 (0, 0))) ∧ Aside0 (Below w.heap.size w w'))
    case atStart => exact ⟨(0), (0), ((⟨#[]⟩ : ByteArray)), ((⟨#[]⟩ : ByteArray)), (0), (0), (by first | rfl | (simp; done) | (simp [*]; done)), H', ⟨Nat.le_refl _⟩, ⟨by (with_reducible repeat (first | refine blk_drewN ?_ _ | refine blk_drew ?_ | refine blk_alloc ?_ _)); exact BK914.out⟩, ⟨by (with_reducible repeat (first | refine blk_drewN ?_ _ | refine blk_drew ?_ | refine blk_alloc ?_ _)); exact BK915.out⟩, ⟨by repeat (first | (with_reducible first | exact HB.out | apply below_alloc | apply pw_below_drewN | apply below_drew1 | refine below_set ?_ GE914.out | refine below_set ?_ GE915.out) | exact HB.out)⟩⟩
    case round =>
      clear H'
      try clear c1
      try clear p2
      try clear c3
      try clear c3b0
      try clear c6
      try clear c11
      try clear hcz12_0
      try clear hcz12_1
      try clear hcz12_2
      try clear hcz7_0
      try clear hcz7_1
      try clear hcz7_2
      try clear hcz8_0
      try clear hcz8_1
      try clear hcz8_2
      try clear hcz8_3
      try clear hcz8_4
      try clear hfz12_0
      try clear hfz12_1
      try clear hfz12_2
      try clear hfz7_0
      try clear hfz7_1
      try clear hfz7_2
      try clear hfz8_0
      try clear hfz8_1
      try clear hfz8_2
      try clear hfz8_3
      try clear hfz8_4
      obtain ⟨x16_1, x916000_1, x916001_1, x916002_1, x916003_1, x916004_1, rfl, HA, HK1, BK914, BK915, HB⟩ := hrel
      cases gk with
      | zero => exact absurd HA.out (by simp [impl_RowGet.l0])
      | succ k1 =>
        have H := HA.out
        clear HA
        simp only [impl_RowGet.l0] at H
        by_cases c13 : x16_1 < (l0_2.length : Int)
        · rw [if_pos c13] at H
          have c13b0 : decide (x16_1 < (l0_2.length : Int)) = true := decide_eq_true c13
          clear c13
          by_cases c14 : 0 ≤ x16_1
          · rw [if_pos c14] at H
            have c14b0 : decide (0 ≤ x16_1) = true := decide_eq_true c14
            clear c14
            by_cases c15 : x16_1 < (l0_2.length : Int)
            · rw [if_pos c15] at H
              have c15b0 : decide (x16_1 < (l0_2.length : Int)) = true := decide_eq_true c15
              clear c15
              by_cases c16 : ((rd_Item l0_2 x16_1).f0) ≥ a1
              · rw [if_pos c16] at H
                have c16b0 : decide (a1 ≤ ((rd_Item l0_2 x16_1).f0)) = true := decide_eq_true c16
                clear c16
                simp only [Option.some.injEq, Prod.mk.injEq] at H
                obtain ⟨rfl, rfl, rfl, rfl, rfl, rfl⟩ := H
                have p916 : 0 ≤ (x16_1 : Int) := of_decide_eq_true (by first | (with_reducible assumption) | assumption)
                have q916 : x16_1 < (l0_2.length : Int) := of_decide_eq_true (by first | (with_reducible assumption) | assumption)
                obtain ⟨ad916, e916, hx916_0, hx916_1, hx916_2, hx916_3, hx916_4⟩ := at_Item HR0_2.out x16_1 p916 q916
                cases e916
                replace hx916_0 := (HB.out.cell (World.block_lt_of_cell? w _ hx916_0)).trans hx916_0
                replace hx916_1 := (HB.out.cell (World.block_lt_of_cell? w _ hx916_1)).trans hx916_1
                replace hx916_2 := (HB.out.cell (World.block_lt_of_cell? w _ hx916_2)).trans hx916_2
                replace hx916_3 := (HB.out.cell (World.block_lt_of_cell? w _ hx916_3)).trans hx916_3
                replace hx916_4 := (HB.out.cell (World.block_lt_of_cell? w _ hx916_4)).trans hx916_4
                replace p916 := eq_true p916
                replace q916 := eq_true q916
                go_wp2_with (first | ((with_reducible refine gate_dst (N := 7) rfl ?_); refine box_event ?hg (N := 7) ?hd (cs := #[.int .i64 0, .string (⟨#[]⟩ : ByteArray), .string (⟨#[]⟩ : ByteArray), .int .i64 0, .int .i64 0]) (t := 36) ?hr ?_; (case hd => rfl); (case hg => rfl); (case hr => first | (go_simp; done) | (go_simp; rfl)); intro gb917 hg w17 hbox hb; have n0_ := Aside0.mk (blk_below (g := gb914) (o := .cells #[.int .i64 a0_0, .int .i64 a0_1, .slice (some ad916) l0_2.length c0_2] 41 (0, 0)) (by (with_reducible repeat (first | refine blk_drewN ?_ _ | refine blk_drew ?_ | refine blk_alloc ?_ _)); exact BK914.out) hb); have n1_ := Aside0.mk (blk_below (g := gb915) (o := .cells #[.int .i64 x916000_1, .string x916001_1, .string x916002_1, .int .i64 x916003_1, .int .i64 x916004_1] 36 (0, 0)) (by (with_reducible repeat (first | refine blk_drewN ?_ _ | refine blk_drew ?_ | refine blk_alloc ?_ _)); exact BK915.out) hb); have n2_ := Aside0.mk (below_step (by repeat (first | (with_reducible first | exact HB.out | apply below_alloc | apply pw_below_drewN | apply below_drew1 | refine below_set ?_ GE914.out | refine below_set ?_ GE915.out) | exact HB.out)) hb); have n3_ := Aside0.mk (hbox); have n4_ := Aside0.mk ((by rw [hg]; exact (below_size (by repeat (first | (with_reducible first | exact HB.out | apply below_alloc | apply pw_below_drewN | apply below_drew1 | refine below_set ?_ GE914.out | refine below_set ?_ GE915.out) | exact HB.out))) : w.heap.size ≤ gb917)); have n5_ := Aside0.mk ((by rw [hg]; exact (below_size (by repeat (first | (with_reducible first | exact HB.out | apply below_alloc | apply pw_below_drewN | apply below_drew1 | refine below_set ?_ GE914.out | refine below_set ?_ GE915.out) | exact HB.out))) : w.heap.size ≤ gb917)); have n6_ := Aside0.mk ((by rw [hg]; exact Nat.ne_of_lt (blk_lt (g := gb914) (o := .cells #[.int .i64 a0_0, .int .i64 a0_1, .slice (some ad916) l0_2.length c0_2] 41 (0, 0)) (by (with_reducible repeat (first | refine blk_drewN ?_ _ | refine blk_drew ?_ | refine blk_alloc ?_ _)); exact BK914.out)) : gb914 ≠ gb917)); have n7_ := Aside0.mk ((by rw [hg]; exact Nat.ne_of_gt (blk_lt (g := gb914) (o := .cells #[.int .i64 a0_0, .int .i64 a0_1, .slice (some ad916) l0_2.length c0_2] 41 (0, 0)) (by (with_reducible repeat (first | refine blk_drewN ?_ _ | refine blk_drew ?_ | refine blk_alloc ?_ _)); exact BK914.out)) : gb917 ≠ gb914)); have n8_ := Aside0.mk ((by rw [hg]; exact Nat.ne_of_lt (blk_lt (g := gb915) (o := .cells #[.int .i64 x916000_1, .string x916001_1, .string x916002_1, .int .i64 x916003_1, .int .i64 x916004_1] 36 (0, 0)) (by (with_reducible repeat (first | refine blk_drewN ?_ _ | refine blk_drew ?_ | refine blk_alloc ?_ _)); exact BK915.out)) : gb915 ≠ gb917)); have n9_ := Aside0.mk ((by rw [hg]; exact Nat.ne_of_gt (blk_lt (g := gb915) (o := .cells #[.int .i64 x916000_1, .string x916001_1, .string x916002_1, .int .i64 x916003_1, .int .i64 x916004_1] 36 (0, 0)) (by (with_reducible repeat (first | refine blk_drewN ?_ _ | refine blk_drew ?_ | refine blk_alloc ?_ _)); exact BK915.out)) : gb917 ≠ gb915)); clear BK914; clear BK915; clear HB; have BK914 := n0_; have BK915 := n1_; have HB := n2_; have BK917 := n3_; have GW917 := n4_; have GE917 := n5_; have NB914_917 := n6_; have NB917_914 := n7_; have NB915_917 := n8_; have NB917_915 := n9_; clear n0_ n1_ n2_ n3_ n4_ n5_ n6_ n7_ n8_ n9_; clear hb hbox hg; have hnb18 := NB917_914.out; have hnc18 := NB914_917.out; have hnb19 := NB917_915.out; have hnc19 := NB915_917.out; have hcz20_0 : w17.cell? ⟨gb917, 0, none⟩ = some (.int .i64 0) := (blk_cell BK917.out 0).trans rfl; have hcz20_1 : w17.cell? ⟨gb917, 1, none⟩ = some (.string (⟨#[]⟩ : ByteArray)) := (blk_cell BK917.out 1).trans rfl; have hcz20_2 : w17.cell? ⟨gb917, 2, none⟩ = some (.string (⟨#[]⟩ : ByteArray)) := (blk_cell BK917.out 2).trans rfl; have hcz20_3 : w17.cell? ⟨gb917, 3, none⟩ = some (.int .i64 0) := (blk_cell BK917.out 3).trans rfl; have hcz20_4 : w17.cell? ⟨gb917, 4, none⟩ = some (.int .i64 0) := (blk_cell BK917.out 4).trans rfl; have hfz20_0 := blk_frozen BK917.out 0; have hfz20_1 := blk_frozen BK917.out 1; have hfz20_2 := blk_frozen BK917.out 2; have hfz20_3 := blk_frozen BK917.out 3; have hfz20_4 := blk_frozen BK917.out 4; have hnb21 := NB915_914.out; have hnc21 := NB914_915.out; have hcz22_0 : w17.cell? ⟨gb915, 0, none⟩ = some (.int .i64 x916000_1) := (blk_cell BK915.out 0).trans rfl; have hcz22_1 : w17.cell? ⟨gb915, 1, none⟩ = some (.string x916001_1) := (blk_cell BK915.out 1).trans rfl; have hcz22_2 : w17.cell? ⟨gb915, 2, none⟩ = some (.string x916002_1) := (blk_cell BK915.out 2).trans rfl; have hcz22_3 : w17.cell? ⟨gb915, 3, none⟩ = some (.int .i64 x916003_1) := (blk_cell BK915.out 3).trans rfl; have hcz22_4 : w17.cell? ⟨gb915, 4, none⟩ = some (.int .i64 x916004_1) := (blk_cell BK915.out 4).trans rfl; have hfz22_0 := blk_frozen BK915.out 0; have hfz22_1 := blk_frozen BK915.out 1; have hfz22_2 := blk_frozen BK915.out 2; have hfz22_3 := blk_frozen BK915.out 3; have hfz22_4 := blk_frozen BK915.out 4))
                refine bodyPost_ret (results_ct rfl _ _ gb915 36 #[.int .i64 ((rd_Item l0_2 x16_1).f0), .string ((rd_Item l0_2 x16_1).f1), .string ((rd_Item l0_2 x16_1).f2), .int .i64 ((rd_Item l0_2 x16_1).f3), .int .i64 ((rd_Item l0_2 x16_1).f4)] (0, 0) _ rfl (by (with_reducible repeat (first | refine blk_drewN ?_ _ | refine blk_drew ?_ | refine blk_alloc ?_ _)); refine blk_put (cs := #[.int .i64 ((rd_Item l0_2 x16_1).f0), .string ((rd_Item l0_2 x16_1).f1), .string ((rd_Item l0_2 x16_1).f2), .int .i64 ((rd_Item l0_2 x16_1).f3), .int .i64 x916004_1]) ?_ 4 _ rfl; (with_reducible repeat (first | refine blk_drewN ?_ _ | refine blk_drew ?_ | refine blk_alloc ?_ _)); refine blk_put (cs := #[.int .i64 ((rd_Item l0_2 x16_1).f0), .string ((rd_Item l0_2 x16_1).f1), .string ((rd_Item l0_2 x16_1).f2), .int .i64 x916003_1, .int .i64 x916004_1]) ?_ 3 _ rfl; (with_reducible repeat (first | refine blk_drewN ?_ _ | refine blk_drew ?_ | refine blk_alloc ?_ _)); refine blk_put (cs := #[.int .i64 ((rd_Item l0_2 x16_1).f0), .string ((rd_Item l0_2 x16_1).f1), .string x916002_1, .int .i64 x916003_1, .int .i64 x916004_1]) ?_ 2 _ rfl; (with_reducible repeat (first | refine blk_drewN ?_ _ | refine blk_drew ?_ | refine blk_alloc ?_ _)); refine blk_put (cs := #[.int .i64 ((rd_Item l0_2 x16_1).f0), .string x916001_1, .string x916002_1, .int .i64 x916003_1, .int .i64 x916004_1]) ?_ 1 _ rfl; (with_reducible repeat (first | refine blk_drewN ?_ _ | refine blk_drew ?_ | refine blk_alloc ?_ _)); refine blk_put (cs := #[.int .i64 x916000_1, .string x916001_1, .string x916002_1, .int .i64 x916003_1, .int .i64 x916004_1]) ?_ 0 _ rfl; (with_reducible repeat (first | refine blk_drewN ?_ _ | refine blk_drew ?_ | refine blk_alloc ?_ _)); refine blk_far ?_ NB915_917.out _; (with_reducible repeat (first | refine blk_drewN ?_ _ | refine blk_drew ?_ | refine blk_alloc ?_ _)); refine blk_far ?_ NB915_917.out _; (with_reducible repeat (first | refine blk_drewN ?_ _ | refine blk_drew ?_ | refine blk_alloc ?_ _)); refine blk_far ?_ NB915_917.out _; (with_reducible repeat (first | refine blk_drewN ?_ _ | refine blk_drew ?_ | refine blk_alloc ?_ _)); refine blk_far ?_ NB915_917.out _; (with_reducible repeat (first | refine blk_drewN ?_ _ | refine blk_drew ?_ | refine blk_alloc ?_ _)); refine blk_far ?_ NB915_917.out _; (with_reducible repeat (first | refine blk_drewN ?_ _ | refine blk_drew ?_ | refine blk_alloc ?_ _)); exact BK915.out) Try.underlying36 rfl (by kernel_rfl)) rfl ?_
                exact ⟨by first | rfl | (simp [errW_none, errW_some] <;> rfl) | (simp [*, errW_none, errW_some] <;> rfl), by repeat (first | (with_reducible first | exact HB.out | apply below_alloc | apply pw_below_drewN | apply below_drew1 | refine below_set ?_ GE914.out | refine below_set ?_ GE915.out | refine below_set ?_ GE917.out) | exact HB.out)⟩
              · rw [if_neg c16] at H
                have c16b0 : decide (a1 ≤ ((rd_Item l0_2 x16_1).f0)) = false := decide_eq_false c16
                clear c16
                have H' := Aside0.mk H
                clear H
                have p916 : 0 ≤ (x16_1 : Int) := of_decide_eq_true (by first | (with_reducible assumption) | assumption)
                have q916 : x16_1 < (l0_2.length : Int) := of_decide_eq_true (by first | (with_reducible assumption) | assumption)
                obtain ⟨ad916, e916, hx916_0, hx916_1, hx916_2, hx916_3, hx916_4⟩ := at_Item HR0_2.out x16_1 p916 q916
                cases e916
                replace hx916_0 := (HB.out.cell (World.block_lt_of_cell? w _ hx916_0)).trans hx916_0
                replace hx916_1 := (HB.out.cell (World.block_lt_of_cell? w _ hx916_1)).trans hx916_1
                replace hx916_2 := (HB.out.cell (World.block_lt_of_cell? w _ hx916_2)).trans hx916_2
                replace hx916_3 := (HB.out.cell (World.block_lt_of_cell? w _ hx916_3)).trans hx916_3
                replace hx916_4 := (HB.out.cell (World.block_lt_of_cell? w _ hx916_4)).trans hx916_4
                replace p916 := eq_true p916
                replace q916 := eq_true q916
                go_wp2_with (first | ((with_reducible refine gate_dst (N := 7) rfl ?_); refine box_event ?hg (N := 7) ?hd (cs := #[.int .i64 0, .string (⟨#[]⟩ : ByteArray), .string (⟨#[]⟩ : ByteArray), .int .i64 0, .int .i64 0]) (t := 36) ?hr ?_; (case hd => rfl); (case hg => rfl); (case hr => first | (go_simp; done) | (go_simp; rfl)); intro gb917 hg w23 hbox hb; have n0_ := Aside0.mk (blk_below (g := gb914) (o := .cells #[.int .i64 a0_0, .int .i64 a0_1, .slice (some ad916) l0_2.length c0_2] 41 (0, 0)) (by (with_reducible repeat (first | refine blk_drewN ?_ _ | refine blk_drew ?_ | refine blk_alloc ?_ _)); exact BK914.out) hb); have n1_ := Aside0.mk (blk_below (g := gb915) (o := .cells #[.int .i64 x916000_1, .string x916001_1, .string x916002_1, .int .i64 x916003_1, .int .i64 x916004_1] 36 (0, 0)) (by (with_reducible repeat (first | refine blk_drewN ?_ _ | refine blk_drew ?_ | refine blk_alloc ?_ _)); exact BK915.out) hb); have n2_ := Aside0.mk (below_step (by repeat (first | (with_reducible first | exact HB.out | apply below_alloc | apply pw_below_drewN | apply below_drew1 | refine below_set ?_ GE914.out | refine below_set ?_ GE915.out) | exact HB.out)) hb); have n3_ := Aside0.mk (hbox); have n4_ := Aside0.mk ((by rw [hg]; exact (below_size (by repeat (first | (with_reducible first | exact HB.out | apply below_alloc | apply pw_below_drewN | apply below_drew1 | refine below_set ?_ GE914.out | refine below_set ?_ GE915.out) | exact HB.out))) : w.heap.size ≤ gb917)); have n5_ := Aside0.mk ((by rw [hg]; exact (below_size (by repeat (first | (with_reducible first | exact HB.out | apply below_alloc | apply pw_below_drewN | apply below_drew1 | refine below_set ?_ GE914.out | refine below_set ?_ GE915.out) | exact HB.out))) : w.heap.size ≤ gb917)); have n6_ := Aside0.mk ((by rw [hg]; exact Nat.ne_of_lt (blk_lt (g := gb914) (o := .cells #[.int .i64 a0_0, .int .i64 a0_1, .slice (some ad916) l0_2.length c0_2] 41 (0, 0)) (by (with_reducible repeat (first | refine blk_drewN ?_ _ | refine blk_drew ?_ | refine blk_alloc ?_ _)); exact BK914.out)) : gb914 ≠ gb917)); have n7_ := Aside0.mk ((by rw [hg]; exact Nat.ne_of_gt (blk_lt (g := gb914) (o := .cells #[.int .i64 a0_0, .int .i64 a0_1, .slice (some ad916) l0_2.length c0_2] 41 (0, 0)) (by (with_reducible repeat (first | refine blk_drewN ?_ _ | refine blk_drew ?_ | refine blk_alloc ?_ _)); exact BK914.out)) : gb917 ≠ gb914)); have n8_ := Aside0.mk ((by rw [hg]; exact Nat.ne_of_lt (blk_lt (g := gb915) (o := .cells #[.int .i64 x916000_1, .string x916001_1, .string x916002_1, .int .i64 x916003_1, .int .i64 x916004_1] 36 (0, 0)) (by (with_reducible repeat (first | refine blk_drewN ?_ _ | refine blk_drew ?_ | refine blk_alloc ?_ _)); exact BK915.out)) : gb915 ≠ gb917)); have n9_ := Aside0.mk ((by rw [hg]; exact Nat.ne_of_gt (blk_lt (g := gb915) (o := .cells #[.int .i64 x916000_1, .string x916001_1, .string x916002_1, .int .i64 x916003_1, .int .i64 x916004_1] 36 (0, 0)) (by (with_reducible repeat (first | refine blk_drewN ?_ _ | refine blk_drew ?_ | refine blk_alloc ?_ _)); exact BK915.out)) : gb917 ≠ gb915)); clear BK914; clear BK915; clear HB; have BK914 := n0_; have BK915 := n1_; have HB := n2_; have BK917 := n3_; have GW917 := n4_; have GE917 := n5_; have NB914_917 := n6_; have NB917_914 := n7_; have NB915_917 := n8_; have NB917_915 := n9_; clear n0_ n1_ n2_ n3_ n4_ n5_ n6_ n7_ n8_ n9_; clear hb hbox hg; have hnb24 := NB917_914.out; have hnc24 := NB914_917.out; have hnb25 := NB917_915.out; have hnc25 := NB915_917.out; have hcz26_0 : w23.cell? ⟨gb917, 0, none⟩ = some (.int .i64 0) := (blk_cell BK917.out 0).trans rfl; have hcz26_1 : w23.cell? ⟨gb917, 1, none⟩ = some (.string (⟨#[]⟩ : ByteArray)) := (blk_cell BK917.out 1).trans rfl; have hcz26_2 : w23.cell? ⟨gb917, 2, none⟩ = some (.string (⟨#[]⟩ : ByteArray)) := (blk_cell BK917.out 2).trans rfl; have hcz26_3 : w23.cell? ⟨gb917, 3, none⟩ = some (.int .i64 0) := (blk_cell BK917.out 3).trans rfl; have hcz26_4 : w23.cell? ⟨gb917, 4, none⟩ = some (.int .i64 0) := (blk_cell BK917.out 4).trans rfl; have hfz26_0 := blk_frozen BK917.out 0; have hfz26_1 := blk_frozen BK917.out 1; have hfz26_2 := blk_frozen BK917.out 2; have hfz26_3 := blk_frozen BK917.out 3; have hfz26_4 := blk_frozen BK917.out 4))
                go_roundg k1
                case measure => have := HK1.out; omega
                case rel => exact ⟨(wrap64 (x16_1 + 1)), (x916000_1), (x916001_1), (x916002_1), (x916003_1), (x916004_1), (by first | rfl | (simp; done) | (simp [*]; done)), H', ⟨by have := HK1.out; omega⟩, ⟨by (with_reducible repeat (first | refine blk_drewN ?_ _ | refine blk_drew ?_ | refine blk_alloc ?_ _)); refine blk_far ?_ NB914_917.out _; (with_reducible repeat (first | refine blk_drewN ?_ _ | refine blk_drew ?_ | refine blk_alloc ?_ _)); refine blk_far ?_ NB914_917.out _; (with_reducible repeat (first | refine blk_drewN ?_ _ | refine blk_drew ?_ | refine blk_alloc ?_ _)); refine blk_far ?_ NB914_917.out _; (with_reducible repeat (first | refine blk_drewN ?_ _ | refine blk_drew ?_ | refine blk_alloc ?_ _)); refine blk_far ?_ NB914_917.out _; (with_reducible repeat (first | refine blk_drewN ?_ _ | refine blk_drew ?_ | refine blk_alloc ?_ _)); refine blk_far ?_ NB914_917.out _; (with_reducible repeat (first | refine blk_drewN ?_ _ | refine blk_drew ?_ | refine blk_alloc ?_ _)); exact BK914.out⟩, ⟨by (with_reducible repeat (first | refine blk_drewN ?_ _ | refine blk_drew ?_ | refine blk_alloc ?_ _)); refine blk_far ?_ NB915_917.out _; (with_reducible repeat (first | refine blk_drewN ?_ _ | refine blk_drew ?_ | refine blk_alloc ?_ _)); refine blk_far ?_ NB915_917.out _; (with_reducible repeat (first | refine blk_drewN ?_ _ | refine blk_drew ?_ | refine blk_alloc ?_ _)); refine blk_far ?_ NB915_917.out _; (with_reducible repeat (first | refine blk_drewN ?_ _ | refine blk_drew ?_ | refine blk_alloc ?_ _)); refine blk_far ?_ NB915_917.out _; (with_reducible repeat (first | refine blk_drewN ?_ _ | refine blk_drew ?_ | refine blk_alloc ?_ _)); refine blk_far ?_ NB915_917.out _; (with_reducible repeat (first | refine blk_drewN ?_ _ | refine blk_drew ?_ | refine blk_alloc ?_ _)); exact BK915.out⟩, ⟨by repeat (first | (with_reducible first | exact HB.out | apply below_alloc | apply pw_below_drewN | apply below_drew1 | refine below_set ?_ GE914.out | refine below_set ?_ GE915.out | refine below_set ?_ GE917.out) | exact HB.out)⟩⟩
            · rw [if_neg c15] at H
              exact absurd H (by simp)
          · rw [if_neg c14] at H
            exact absurd H (by simp)
        · rw [if_neg c13] at H
          have c13b0 : decide (x16_1 < (l0_2.length : Int)) = false := decide_eq_false c13
          clear c13
          simp only [Option.some.injEq, Prod.mk.injEq] at H
          obtain ⟨rfl, rfl, rfl, rfl, rfl, rfl⟩ := H
          have hnb27 := NB915_914.out
          have hnc27 := NB914_915.out
          have hcz28_0 : wr.cell? ⟨gb915, 0, none⟩ = some (.int .i64 x916000_1) := (blk_cell BK915.out 0).trans rfl
          have hcz28_1 : wr.cell? ⟨gb915, 1, none⟩ = some (.string x916001_1) := (blk_cell BK915.out 1).trans rfl
          have hcz28_2 : wr.cell? ⟨gb915, 2, none⟩ = some (.string x916002_1) := (blk_cell BK915.out 2).trans rfl
          have hcz28_3 : wr.cell? ⟨gb915, 3, none⟩ = some (.int .i64 x916003_1) := (blk_cell BK915.out 3).trans rfl
          have hcz28_4 : wr.cell? ⟨gb915, 4, none⟩ = some (.int .i64 x916004_1) := (blk_cell BK915.out 4).trans rfl
          have hfz28_0 := blk_frozen BK915.out 0
          have hfz28_1 := blk_frozen BK915.out 1
          have hfz28_2 := blk_frozen BK915.out 2
          have hfz28_3 := blk_frozen BK915.out 3
          have hfz28_4 := blk_frozen BK915.out 4
          go_wp2
          refine bodyPost_ret (results_ct rfl _ _ gb915 36 #[.int .i64 0, .string (⟨#[]⟩ : ByteArray), .string (⟨#[]⟩ : ByteArray), .int .i64 0, .int .i64 0] (0, 0) _ rfl (by (with_reducible repeat (first | refine blk_drewN ?_ _ | refine blk_drew ?_ | refine blk_alloc ?_ _)); refine blk_put (cs := #[.int .i64 0, .string (⟨#[]⟩ : ByteArray), .string (⟨#[]⟩ : ByteArray), .int .i64 0, .int .i64 x916004_1]) ?_ 4 _ rfl; (with_reducible repeat (first | refine blk_drewN ?_ _ | refine blk_drew ?_ | refine blk_alloc ?_ _)); refine blk_put (cs := #[.int .i64 0, .string (⟨#[]⟩ : ByteArray), .string (⟨#[]⟩ : ByteArray), .int .i64 x916003_1, .int .i64 x916004_1]) ?_ 3 _ rfl; (with_reducible repeat (first | refine blk_drewN ?_ _ | refine blk_drew ?_ | refine blk_alloc ?_ _)); refine blk_put (cs := #[.int .i64 0, .string (⟨#[]⟩ : ByteArray), .string x916002_1, .int .i64 x916003_1, .int .i64 x916004_1]) ?_ 2 _ rfl; (with_reducible repeat (first | refine blk_drewN ?_ _ | refine blk_drew ?_ | refine blk_alloc ?_ _)); refine blk_put (cs := #[.int .i64 0, .string x916001_1, .string x916002_1, .int .i64 x916003_1, .int .i64 x916004_1]) ?_ 1 _ rfl; (with_reducible repeat (first | refine blk_drewN ?_ _ | refine blk_drew ?_ | refine blk_alloc ?_ _)); refine blk_put (cs := #[.int .i64 x916000_1, .string x916001_1, .string x916002_1, .int .i64 x916003_1, .int .i64 x916004_1]) ?_ 0 _ rfl; (with_reducible repeat (first | refine blk_drewN ?_ _ | refine blk_drew ?_ | refine blk_alloc ?_ _)); exact BK915.out) Try.underlying36 rfl (by kernel_rfl)) rfl ?_
          exact ⟨by first | rfl | (simp [errW_none, errW_some] <;> rfl) | (simp [*, errW_none, errW_some] <;> rfl), by repeat (first | (with_reducible first | exact HB.out | apply below_alloc | apply pw_below_drewN | apply below_drew1 | refine below_set ?_ GE914.out | refine below_set ?_ GE915.out) | exact HB.out)⟩

end Go.Proofs.Ytgkeapbeogmfjaa.Q
