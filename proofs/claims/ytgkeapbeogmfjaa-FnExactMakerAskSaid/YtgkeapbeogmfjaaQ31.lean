/- Made by a program of ours out of the print of the loaded functions: for each of some functions a plain function, and the walk that shows that a call comes to what it says. No condition but those of each theorem. -/
import Derived.Test.YtgkeapbeogmfjaaQ0
namespace Go.Proofs.Ytgkeapbeogmfjaa.Q
open Go.RowKit Go.Proofs.YtgkeapbeogmfjaaW.PrintWords Go.Proofs.YtgkeapbeogmfjaaW.PrintLast Go.Proofs.YtgkeapbeogmfjaaW.PrintMore
attribute [local go_sem] max2_int min2_int max_two min_two max_three min_three max_four min_four   -- for this text's walks alone
set_option linter.unusedVariables false
set_option linter.unusedSimpArgs false

/-! ### spec_MakerAsk: function 27 -/
def spec_MakerAsk.l0 : Nat → Int → Int → Int → Int → Int → Int → List (S_Mark) → Option (Int × Int)
  | 0, _, _, _, _, _, _, _ => none
  | k + 1, x2, x8, x696000, x696001, x696002, x696003, x696004 => if x8 < (x696004.length : Int) then (if 0 ≤ x8 then (if ((rd_Mark x696004 x8).f0) = x2 then (some (1, (rd_Mark x696004 x8).f1)) else (spec_MakerAsk.l0 k x2 (wrap64 (x8 + 1)) x696000 x696001 x696002 x696003 x696004)) else (none)) else (some (2, 0))
def spec_MakerAsk.f (k : Nat) (a0_0 : Int) (a0_1 : Int) (a0_2 : Int) (a0_3 : Int) (l0_4 : List (S_Mark)) (a1 : Int) (a2 : Int) : Option (Int × Int) := if a1 < a0_2 then (some (4, 0)) else (if a1 > a0_2 then (if a2 = 0 then (some (0, 0)) else (some (3, 0))) else (if a2 > a0_3 then (if (wrap64 (a2 - 1)) = a0_3 then (some (0, 0)) else (some (3, 0))) else (spec_MakerAsk.l0 k a2 0 a0_0 a0_1 a0_2 a0_3 l0_4)))
theorem spec_MakerAsk.mono_l : ∀ k, (∀ y0 y1 y2 y3 y4 y5 y6, LeO (spec_MakerAsk.l0 k y0 y1 y2 y3 y4 y5 y6) (spec_MakerAsk.l0 (k + 1) y0 y1 y2 y3 y4 y5 y6))
  | 0 => fun _ _ _ _ _ _ _ r h => by simp [spec_MakerAsk.l0] at h
  | k + 1 => by
    have ih0 := spec_MakerAsk.mono_l k
    · intro y0 y1 y2 y3 y4 y5 y6
      unfold spec_MakerAsk.l0
      repeat' first
      | (with_reducible exact ih0 _ _ _ _ _ _ _)
      | (with_reducible exact LeO.refl _)
      | (with_reducible exact LeO.none _)
      | (with_reducible refine LeO.ite ?_ ?_)
      | (with_reducible refine LeO.bind ?_ (fun _ => ?_))
      | exact ih0 _ _ _ _ _ _ _
      | exact LeO.none _
      | refine LeO.ite ?_ ?_
      | refine LeO.bind ?_ (fun _ => ?_)
theorem spec_MakerAsk.mono : ∀ a0 a1 a2 a3 a4 a5 a6 k, LeO (spec_MakerAsk.f k a0 a1 a2 a3 a4 a5 a6) (spec_MakerAsk.f (k + 1) a0 a1 a2 a3 a4 a5 a6) := by
  intro a0 a1 a2 a3 a4 a5 a6 k
  have ih0 := spec_MakerAsk.mono_l k
  unfold spec_MakerAsk.f
  repeat' first
      | (with_reducible exact ih0 _ _ _ _ _ _ _)
      | (with_reducible exact LeO.refl _)
      | (with_reducible exact LeO.none _)
      | (with_reducible refine LeO.ite ?_ ?_)
      | (with_reducible refine LeO.bind ?_ (fun _ => ?_))
      | exact ih0 _ _ _ _ _ _ _
      | exact LeO.none _
      | refine LeO.ite ?_ ?_
      | refine LeO.bind ?_ (fun _ => ?_)
set_option maxHeartbeats 8000000 in
set_option maxRecDepth 100000 in
theorem spec_MakerAsk.calls (k : Nat) (a0_0 : Int) (a0_1 : Int) (a0_2 : Int) (a0_3 : Int) (A0_4 : Option Addr) (c0_4 : Nat) (l0_4 : List (S_Mark)) (a1 : Int) (a2 : Int) (r1 : Int) (r2 : Int) (w : World) (hr0_4 : Kd.C k_Mark w A0_4 l0_4.length l0_4) (hc0_4 : l0_4.length ≤ c0_4) (h : spec_MakerAsk.f k a0_0 a0_1 a0_2 a0_3 l0_4 a1 a2 = some (r1, r2)) :
    Calls Try.prog 27 #[.agg #[.int .i64 a0_0, .int .i64 a0_1, .int .i64 a0_2, .int .i64 a0_3, .slice A0_4 l0_4.length c0_4], .int .i64 a1, .int .i64 a2] w fun e w' => e = .returned (.tuple #[.int .i64 r1, .int .i64 r2]) ∧ Below w.heap.size w w' := by
  have hu54 := Try.underlying54
  have HR0_4 := Aside0.mk hr0_4
  have HC0_4 := Aside0.mk hc0_4
  clear hr0_4 hc0_4
  have HB := Aside0.mk (Below.refl w.heap.size w)
  have H : (if a1 < a0_2 then (some (4, 0)) else (if a1 > a0_2 then (if a2 = 0 then (some (0, 0)) else (some (3, 0))) else (if a2 > a0_3 then (if (wrap64 (a2 - 1)) = a0_3 then (some (0, 0)) else (some (3, 0))) else (spec_MakerAsk.l0 k a2 0 a0_0 a0_1 a0_2 a0_3 l0_4)))) = some (r1, r2) := h
  clear h
  by_cases c4 : a1 < a0_2
  · rw [if_pos c4] at H
    have c4b0 : decide (a1 < a0_2) = true := decide_eq_true c4
    clear c4
    simp only [Option.some.injEq, Prod.mk.injEq] at H
    obtain ⟨rfl, rfl⟩ := H
    go_enter Try.func27, Try.ntmps27
    go_wp2_with (first | ((with_reducible refine gate_dst (N := 3) rfl ?_); refine box_event ?hg (N := 3) ?hd (cs := #[.int .i64 a0_0, .int .i64 a0_1, .int .i64 a0_2, .int .i64 a0_3, .slice A0_4 l0_4.length c0_4]) (t := 54) ?hr ?_; (case hd => rfl); (case hg => rfl); (case hr => first | (go_simp; done) | (go_simp; rfl)); intro gb695 hg w5 hbox hb; have n0_ := Aside0.mk (below_step (by repeat (first | (with_reducible first | exact HB.out | apply below_alloc | apply pw_below_drewN | apply below_drew1) | exact HB.out)) hb); have n1_ := Aside0.mk (hbox); have n2_ := Aside0.mk ((by rw [hg]; exact (below_size (by repeat (first | (with_reducible first | exact HB.out | apply below_alloc | apply pw_below_drewN | apply below_drew1) | exact HB.out))) : w.heap.size ≤ gb695)); have n3_ := Aside0.mk ((by rw [hg]; exact (below_size (by repeat (first | (with_reducible first | exact HB.out | apply below_alloc | apply pw_below_drewN | apply below_drew1) | exact HB.out))) : w.heap.size ≤ gb695)); clear HB; have HB := n0_; have BK695 := n1_; have GW695 := n2_; have GE695 := n3_; clear n0_ n1_ n2_ n3_; clear hb hbox hg; have hcz6_0 : w5.cell? ⟨gb695, 0, none⟩ = some (.int .i64 a0_0) := (blk_cell BK695.out 0).trans rfl; have hcz6_1 : w5.cell? ⟨gb695, 1, none⟩ = some (.int .i64 a0_1) := (blk_cell BK695.out 1).trans rfl; have hcz6_2 : w5.cell? ⟨gb695, 2, none⟩ = some (.int .i64 a0_2) := (blk_cell BK695.out 2).trans rfl; have hcz6_3 : w5.cell? ⟨gb695, 3, none⟩ = some (.int .i64 a0_3) := (blk_cell BK695.out 3).trans rfl; have hcz6_4 : w5.cell? ⟨gb695, 4, none⟩ = some (.slice A0_4 l0_4.length c0_4) := (blk_cell BK695.out 4).trans rfl; have hfz6_0 := blk_frozen BK695.out 0; have hfz6_1 := blk_frozen BK695.out 1; have hfz6_2 := blk_frozen BK695.out 2; have hfz6_3 := blk_frozen BK695.out 3; have hfz6_4 := blk_frozen BK695.out 4))
    repeat (go_quiet (first | ((with_reducible refine gate_dst (N := 3) rfl ?_); refine box_event ?hg (N := 3) ?hd (cs := #[.int .i64 a0_0, .int .i64 a0_1, .int .i64 a0_2, .int .i64 a0_3, .slice A0_4 l0_4.length c0_4]) (t := 54) ?hr ?_; (case hd => rfl); (case hg => rfl); (case hr => first | (go_simp; done) | (go_simp; rfl)); intro gb695 hg w5 hbox hb; have n0_ := Aside0.mk (below_step (by repeat (first | (with_reducible first | exact HB.out | apply below_alloc | apply pw_below_drewN | apply below_drew1) | exact HB.out)) hb); have n1_ := Aside0.mk (hbox); have n2_ := Aside0.mk ((by rw [hg]; exact (below_size (by repeat (first | (with_reducible first | exact HB.out | apply below_alloc | apply pw_below_drewN | apply below_drew1) | exact HB.out))) : w.heap.size ≤ gb695)); have n3_ := Aside0.mk ((by rw [hg]; exact (below_size (by repeat (first | (with_reducible first | exact HB.out | apply below_alloc | apply pw_below_drewN | apply below_drew1) | exact HB.out))) : w.heap.size ≤ gb695)); clear HB; have HB := n0_; have BK695 := n1_; have GW695 := n2_; have GE695 := n3_; clear n0_ n1_ n2_ n3_; clear hb hbox hg; have hcz6_0 : w5.cell? ⟨gb695, 0, none⟩ = some (.int .i64 a0_0) := (blk_cell BK695.out 0).trans rfl; have hcz6_1 : w5.cell? ⟨gb695, 1, none⟩ = some (.int .i64 a0_1) := (blk_cell BK695.out 1).trans rfl; have hcz6_2 : w5.cell? ⟨gb695, 2, none⟩ = some (.int .i64 a0_2) := (blk_cell BK695.out 2).trans rfl; have hcz6_3 : w5.cell? ⟨gb695, 3, none⟩ = some (.int .i64 a0_3) := (blk_cell BK695.out 3).trans rfl; have hcz6_4 : w5.cell? ⟨gb695, 4, none⟩ = some (.slice A0_4 l0_4.length c0_4) := (blk_cell BK695.out 4).trans rfl; have hfz6_0 := blk_frozen BK695.out 0; have hfz6_1 := blk_frozen BK695.out 1; have hfz6_2 := blk_frozen BK695.out 2; have hfz6_3 := blk_frozen BK695.out 3; have hfz6_4 := blk_frozen BK695.out 4)); try go_wp2_with (first | ((with_reducible refine gate_dst (N := 3) rfl ?_); refine box_event ?hg (N := 3) ?hd (cs := #[.int .i64 a0_0, .int .i64 a0_1, .int .i64 a0_2, .int .i64 a0_3, .slice A0_4 l0_4.length c0_4]) (t := 54) ?hr ?_; (case hd => rfl); (case hg => rfl); (case hr => first | (go_simp; done) | (go_simp; rfl)); intro gb695 hg w5 hbox hb; have n0_ := Aside0.mk (below_step (by repeat (first | (with_reducible first | exact HB.out | apply below_alloc | apply pw_below_drewN | apply below_drew1) | exact HB.out)) hb); have n1_ := Aside0.mk (hbox); have n2_ := Aside0.mk ((by rw [hg]; exact (below_size (by repeat (first | (with_reducible first | exact HB.out | apply below_alloc | apply pw_below_drewN | apply below_drew1) | exact HB.out))) : w.heap.size ≤ gb695)); have n3_ := Aside0.mk ((by rw [hg]; exact (below_size (by repeat (first | (with_reducible first | exact HB.out | apply below_alloc | apply pw_below_drewN | apply below_drew1) | exact HB.out))) : w.heap.size ≤ gb695)); clear HB; have HB := n0_; have BK695 := n1_; have GW695 := n2_; have GE695 := n3_; clear n0_ n1_ n2_ n3_; clear hb hbox hg; have hcz6_0 : w5.cell? ⟨gb695, 0, none⟩ = some (.int .i64 a0_0) := (blk_cell BK695.out 0).trans rfl; have hcz6_1 : w5.cell? ⟨gb695, 1, none⟩ = some (.int .i64 a0_1) := (blk_cell BK695.out 1).trans rfl; have hcz6_2 : w5.cell? ⟨gb695, 2, none⟩ = some (.int .i64 a0_2) := (blk_cell BK695.out 2).trans rfl; have hcz6_3 : w5.cell? ⟨gb695, 3, none⟩ = some (.int .i64 a0_3) := (blk_cell BK695.out 3).trans rfl; have hcz6_4 : w5.cell? ⟨gb695, 4, none⟩ = some (.slice A0_4 l0_4.length c0_4) := (blk_cell BK695.out 4).trans rfl; have hfz6_0 := blk_frozen BK695.out 0; have hfz6_1 := blk_frozen BK695.out 1; have hfz6_2 := blk_frozen BK695.out 2; have hfz6_3 := blk_frozen BK695.out 3; have hfz6_4 := blk_frozen BK695.out 4)))
    go_ret2
    exact ⟨by first | rfl | (simp [errW_none, errW_some] <;> rfl) | (simp [*, errW_none, errW_some] <;> rfl), by repeat (first | (with_reducible first | exact HB.out | apply below_alloc | apply pw_below_drewN | apply below_drew1 | refine below_set ?_ GE695.out) | exact HB.out)⟩
  · rw [if_neg c4] at H
    have c4b0 : decide (a1 < a0_2) = false := decide_eq_false c4
    clear c4
    by_cases c7 : a1 > a0_2
    · rw [if_pos c7] at H
      have c7b0 : decide (a0_2 < a1) = true := decide_eq_true c7
      clear c7
      by_cases c8 : a2 = 0
      · rw [if_pos c8] at H
        have c8b0 : (a2 == 0) = true := beq_iff_eq.mpr c8
        have c8b1 : (a2 != 0) = false := bne_eq_false_iff_eq.mpr c8
        clear c8
        simp only [Option.some.injEq, Prod.mk.injEq] at H
        obtain ⟨rfl, rfl⟩ := H
        go_enter Try.func27, Try.ntmps27
        go_wp2_with (first | ((with_reducible refine gate_dst (N := 3) rfl ?_); refine box_event ?hg (N := 3) ?hd (cs := #[.int .i64 a0_0, .int .i64 a0_1, .int .i64 a0_2, .int .i64 a0_3, .slice A0_4 l0_4.length c0_4]) (t := 54) ?hr ?_; (case hd => rfl); (case hg => rfl); (case hr => first | (go_simp; done) | (go_simp; rfl)); intro gb695 hg w9 hbox hb; have n0_ := Aside0.mk (below_step (by repeat (first | (with_reducible first | exact HB.out | apply below_alloc | apply pw_below_drewN | apply below_drew1) | exact HB.out)) hb); have n1_ := Aside0.mk (hbox); have n2_ := Aside0.mk ((by rw [hg]; exact (below_size (by repeat (first | (with_reducible first | exact HB.out | apply below_alloc | apply pw_below_drewN | apply below_drew1) | exact HB.out))) : w.heap.size ≤ gb695)); have n3_ := Aside0.mk ((by rw [hg]; exact (below_size (by repeat (first | (with_reducible first | exact HB.out | apply below_alloc | apply pw_below_drewN | apply below_drew1) | exact HB.out))) : w.heap.size ≤ gb695)); clear HB; have HB := n0_; have BK695 := n1_; have GW695 := n2_; have GE695 := n3_; clear n0_ n1_ n2_ n3_; clear hb hbox hg; have hcz10_0 : w9.cell? ⟨gb695, 0, none⟩ = some (.int .i64 a0_0) := (blk_cell BK695.out 0).trans rfl; have hcz10_1 : w9.cell? ⟨gb695, 1, none⟩ = some (.int .i64 a0_1) := (blk_cell BK695.out 1).trans rfl; have hcz10_2 : w9.cell? ⟨gb695, 2, none⟩ = some (.int .i64 a0_2) := (blk_cell BK695.out 2).trans rfl; have hcz10_3 : w9.cell? ⟨gb695, 3, none⟩ = some (.int .i64 a0_3) := (blk_cell BK695.out 3).trans rfl; have hcz10_4 : w9.cell? ⟨gb695, 4, none⟩ = some (.slice A0_4 l0_4.length c0_4) := (blk_cell BK695.out 4).trans rfl; have hfz10_0 := blk_frozen BK695.out 0; have hfz10_1 := blk_frozen BK695.out 1; have hfz10_2 := blk_frozen BK695.out 2; have hfz10_3 := blk_frozen BK695.out 3; have hfz10_4 := blk_frozen BK695.out 4))
        repeat (go_quiet (first | ((with_reducible refine gate_dst (N := 3) rfl ?_); refine box_event ?hg (N := 3) ?hd (cs := #[.int .i64 a0_0, .int .i64 a0_1, .int .i64 a0_2, .int .i64 a0_3, .slice A0_4 l0_4.length c0_4]) (t := 54) ?hr ?_; (case hd => rfl); (case hg => rfl); (case hr => first | (go_simp; done) | (go_simp; rfl)); intro gb695 hg w9 hbox hb; have n0_ := Aside0.mk (below_step (by repeat (first | (with_reducible first | exact HB.out | apply below_alloc | apply pw_below_drewN | apply below_drew1) | exact HB.out)) hb); have n1_ := Aside0.mk (hbox); have n2_ := Aside0.mk ((by rw [hg]; exact (below_size (by repeat (first | (with_reducible first | exact HB.out | apply below_alloc | apply pw_below_drewN | apply below_drew1) | exact HB.out))) : w.heap.size ≤ gb695)); have n3_ := Aside0.mk ((by rw [hg]; exact (below_size (by repeat (first | (with_reducible first | exact HB.out | apply below_alloc | apply pw_below_drewN | apply below_drew1) | exact HB.out))) : w.heap.size ≤ gb695)); clear HB; have HB := n0_; have BK695 := n1_; have GW695 := n2_; have GE695 := n3_; clear n0_ n1_ n2_ n3_; clear hb hbox hg; have hcz10_0 : w9.cell? ⟨gb695, 0, none⟩ = some (.int .i64 a0_0) := (blk_cell BK695.out 0).trans rfl; have hcz10_1 : w9.cell? ⟨gb695, 1, none⟩ = some (.int .i64 a0_1) := (blk_cell BK695.out 1).trans rfl; have hcz10_2 : w9.cell? ⟨gb695, 2, none⟩ = some (.int .i64 a0_2) := (blk_cell BK695.out 2).trans rfl; have hcz10_3 : w9.cell? ⟨gb695, 3, none⟩ = some (.int .i64 a0_3) := (blk_cell BK695.out 3).trans rfl; have hcz10_4 : w9.cell? ⟨gb695, 4, none⟩ = some (.slice A0_4 l0_4.length c0_4) := (blk_cell BK695.out 4).trans rfl; have hfz10_0 := blk_frozen BK695.out 0; have hfz10_1 := blk_frozen BK695.out 1; have hfz10_2 := blk_frozen BK695.out 2; have hfz10_3 := blk_frozen BK695.out 3; have hfz10_4 := blk_frozen BK695.out 4)); try go_wp2_with (first | ((with_reducible refine gate_dst (N := 3) rfl ?_); refine box_event ?hg (N := 3) ?hd (cs := #[.int .i64 a0_0, .int .i64 a0_1, .int .i64 a0_2, .int .i64 a0_3, .slice A0_4 l0_4.length c0_4]) (t := 54) ?hr ?_; (case hd => rfl); (case hg => rfl); (case hr => first | (go_simp; done) | (go_simp; rfl)); intro gb695 hg w9 hbox hb; have n0_ := Aside0.mk (below_step (by repeat (first | (with_reducible first | exact HB.out | apply below_alloc | apply pw_below_drewN | apply below_drew1) | exact HB.out)) hb); have n1_ := Aside0.mk (hbox); have n2_ := Aside0.mk ((by rw [hg]; exact (below_size (by repeat (first | (with_reducible first | exact HB.out | apply below_alloc | apply pw_below_drewN | apply below_drew1) | exact HB.out))) : w.heap.size ≤ gb695)); have n3_ := Aside0.mk ((by rw [hg]; exact (below_size (by repeat (first | (with_reducible first | exact HB.out | apply below_alloc | apply pw_below_drewN | apply below_drew1) | exact HB.out))) : w.heap.size ≤ gb695)); clear HB; have HB := n0_; have BK695 := n1_; have GW695 := n2_; have GE695 := n3_; clear n0_ n1_ n2_ n3_; clear hb hbox hg; have hcz10_0 : w9.cell? ⟨gb695, 0, none⟩ = some (.int .i64 a0_0) := (blk_cell BK695.out 0).trans rfl; have hcz10_1 : w9.cell? ⟨gb695, 1, none⟩ = some (.int .i64 a0_1) := (blk_cell BK695.out 1).trans rfl; have hcz10_2 : w9.cell? ⟨gb695, 2, none⟩ = some (.int .i64 a0_2) := (blk_cell BK695.out 2).trans rfl; have hcz10_3 : w9.cell? ⟨gb695, 3, none⟩ = some (.int .i64 a0_3) := (blk_cell BK695.out 3).trans rfl; have hcz10_4 : w9.cell? ⟨gb695, 4, none⟩ = some (.slice A0_4 l0_4.length c0_4) := (blk_cell BK695.out 4).trans rfl; have hfz10_0 := blk_frozen BK695.out 0; have hfz10_1 := blk_frozen BK695.out 1; have hfz10_2 := blk_frozen BK695.out 2; have hfz10_3 := blk_frozen BK695.out 3; have hfz10_4 := blk_frozen BK695.out 4)))
        go_ret2
        exact ⟨by first | rfl | (simp [errW_none, errW_some] <;> rfl) | (simp [*, errW_none, errW_some] <;> rfl), by repeat (first | (with_reducible first | exact HB.out | apply below_alloc | apply pw_below_drewN | apply below_drew1 | refine below_set ?_ GE695.out) | exact HB.out)⟩
      · rw [if_neg c8] at H
        have c8b0 : (a2 == 0) = false := beq_eq_false_iff_ne.mpr c8
        have c8b1 : (a2 != 0) = true := bne_iff_ne.mpr c8
        simp only [Option.some.injEq, Prod.mk.injEq] at H
        obtain ⟨rfl, rfl⟩ := H
        go_enter Try.func27, Try.ntmps27
        go_wp2_with (first | ((with_reducible refine gate_dst (N := 3) rfl ?_); refine box_event ?hg (N := 3) ?hd (cs := #[.int .i64 a0_0, .int .i64 a0_1, .int .i64 a0_2, .int .i64 a0_3, .slice A0_4 l0_4.length c0_4]) (t := 54) ?hr ?_; (case hd => rfl); (case hg => rfl); (case hr => first | (go_simp; done) | (go_simp; rfl)); intro gb695 hg w11 hbox hb; have n0_ := Aside0.mk (below_step (by repeat (first | (with_reducible first | exact HB.out | apply below_alloc | apply pw_below_drewN | apply below_drew1) | exact HB.out)) hb); have n1_ := Aside0.mk (hbox); have n2_ := Aside0.mk ((by rw [hg]; exact (below_size (by repeat (first | (with_reducible first | exact HB.out | apply below_alloc | apply pw_below_drewN | apply below_drew1) | exact HB.out))) : w.heap.size ≤ gb695)); have n3_ := Aside0.mk ((by rw [hg]; exact (below_size (by repeat (first | (with_reducible first | exact HB.out | apply below_alloc | apply pw_below_drewN | apply below_drew1) | exact HB.out))) : w.heap.size ≤ gb695)); clear HB; have HB := n0_; have BK695 := n1_; have GW695 := n2_; have GE695 := n3_; clear n0_ n1_ n2_ n3_; clear hb hbox hg; have hcz12_0 : w11.cell? ⟨gb695, 0, none⟩ = some (.int .i64 a0_0) := (blk_cell BK695.out 0).trans rfl; have hcz12_1 : w11.cell? ⟨gb695, 1, none⟩ = some (.int .i64 a0_1) := (blk_cell BK695.out 1).trans rfl; have hcz12_2 : w11.cell? ⟨gb695, 2, none⟩ = some (.int .i64 a0_2) := (blk_cell BK695.out 2).trans rfl; have hcz12_3 : w11.cell? ⟨gb695, 3, none⟩ = some (.int .i64 a0_3) := (blk_cell BK695.out 3).trans rfl; have hcz12_4 : w11.cell? ⟨gb695, 4, none⟩ = some (.slice A0_4 l0_4.length c0_4) := (blk_cell BK695.out 4).trans rfl; have hfz12_0 := blk_frozen BK695.out 0; have hfz12_1 := blk_frozen BK695.out 1; have hfz12_2 := blk_frozen BK695.out 2; have hfz12_3 := blk_frozen BK695.out 3; have hfz12_4 := blk_frozen BK695.out 4))
        repeat (go_quiet (first | ((with_reducible refine gate_dst (N := 3) rfl ?_); refine box_event ?hg (N := 3) ?hd (cs := #[.int .i64 a0_0, .int .i64 a0_1, .int .i64 a0_2, .int .i64 a0_3, .slice A0_4 l0_4.length c0_4]) (t := 54) ?hr ?_; (case hd => rfl); (case hg => rfl); (case hr => first | (go_simp; done) | (go_simp; rfl)); intro gb695 hg w11 hbox hb; have n0_ := Aside0.mk (below_step (by repeat (first | (with_reducible first | exact HB.out | apply below_alloc | apply pw_below_drewN | apply below_drew1) | exact HB.out)) hb); have n1_ := Aside0.mk (hbox); have n2_ := Aside0.mk ((by rw [hg]; exact (below_size (by repeat (first | (with_reducible first | exact HB.out | apply below_alloc | apply pw_below_drewN | apply below_drew1) | exact HB.out))) : w.heap.size ≤ gb695)); have n3_ := Aside0.mk ((by rw [hg]; exact (below_size (by repeat (first | (with_reducible first | exact HB.out | apply below_alloc | apply pw_below_drewN | apply below_drew1) | exact HB.out))) : w.heap.size ≤ gb695)); clear HB; have HB := n0_; have BK695 := n1_; have GW695 := n2_; have GE695 := n3_; clear n0_ n1_ n2_ n3_; clear hb hbox hg; have hcz12_0 : w11.cell? ⟨gb695, 0, none⟩ = some (.int .i64 a0_0) := (blk_cell BK695.out 0).trans rfl; have hcz12_1 : w11.cell? ⟨gb695, 1, none⟩ = some (.int .i64 a0_1) := (blk_cell BK695.out 1).trans rfl; have hcz12_2 : w11.cell? ⟨gb695, 2, none⟩ = some (.int .i64 a0_2) := (blk_cell BK695.out 2).trans rfl; have hcz12_3 : w11.cell? ⟨gb695, 3, none⟩ = some (.int .i64 a0_3) := (blk_cell BK695.out 3).trans rfl; have hcz12_4 : w11.cell? ⟨gb695, 4, none⟩ = some (.slice A0_4 l0_4.length c0_4) := (blk_cell BK695.out 4).trans rfl; have hfz12_0 := blk_frozen BK695.out 0; have hfz12_1 := blk_frozen BK695.out 1; have hfz12_2 := blk_frozen BK695.out 2; have hfz12_3 := blk_frozen BK695.out 3; have hfz12_4 := blk_frozen BK695.out 4)); try go_wp2_with (first | ((with_reducible refine gate_dst (N := 3) rfl ?_); refine box_event ?hg (N := 3) ?hd (cs := #[.int .i64 a0_0, .int .i64 a0_1, .int .i64 a0_2, .int .i64 a0_3, .slice A0_4 l0_4.length c0_4]) (t := 54) ?hr ?_; (case hd => rfl); (case hg => rfl); (case hr => first | (go_simp; done) | (go_simp; rfl)); intro gb695 hg w11 hbox hb; have n0_ := Aside0.mk (below_step (by repeat (first | (with_reducible first | exact HB.out | apply below_alloc | apply pw_below_drewN | apply below_drew1) | exact HB.out)) hb); have n1_ := Aside0.mk (hbox); have n2_ := Aside0.mk ((by rw [hg]; exact (below_size (by repeat (first | (with_reducible first | exact HB.out | apply below_alloc | apply pw_below_drewN | apply below_drew1) | exact HB.out))) : w.heap.size ≤ gb695)); have n3_ := Aside0.mk ((by rw [hg]; exact (below_size (by repeat (first | (with_reducible first | exact HB.out | apply below_alloc | apply pw_below_drewN | apply below_drew1) | exact HB.out))) : w.heap.size ≤ gb695)); clear HB; have HB := n0_; have BK695 := n1_; have GW695 := n2_; have GE695 := n3_; clear n0_ n1_ n2_ n3_; clear hb hbox hg; have hcz12_0 : w11.cell? ⟨gb695, 0, none⟩ = some (.int .i64 a0_0) := (blk_cell BK695.out 0).trans rfl; have hcz12_1 : w11.cell? ⟨gb695, 1, none⟩ = some (.int .i64 a0_1) := (blk_cell BK695.out 1).trans rfl; have hcz12_2 : w11.cell? ⟨gb695, 2, none⟩ = some (.int .i64 a0_2) := (blk_cell BK695.out 2).trans rfl; have hcz12_3 : w11.cell? ⟨gb695, 3, none⟩ = some (.int .i64 a0_3) := (blk_cell BK695.out 3).trans rfl; have hcz12_4 : w11.cell? ⟨gb695, 4, none⟩ = some (.slice A0_4 l0_4.length c0_4) := (blk_cell BK695.out 4).trans rfl; have hfz12_0 := blk_frozen BK695.out 0; have hfz12_1 := blk_frozen BK695.out 1; have hfz12_2 := blk_frozen BK695.out 2; have hfz12_3 := blk_frozen BK695.out 3; have hfz12_4 := blk_frozen BK695.out 4)))
        go_ret2
        exact ⟨by first | rfl | (simp [errW_none, errW_some] <;> rfl) | (simp [*, errW_none, errW_some] <;> rfl), by repeat (first | (with_reducible first | exact HB.out | apply below_alloc | apply pw_below_drewN | apply below_drew1 | refine below_set ?_ GE695.out) | exact HB.out)⟩
    · rw [if_neg c7] at H
      have c7b0 : decide (a0_2 < a1) = false := decide_eq_false c7
      clear c7
      by_cases c13 : a2 > a0_3
      · rw [if_pos c13] at H
        have c13b0 : decide (a0_3 < a2) = true := decide_eq_true c13
        clear c13
        by_cases c14 : (wrap64 (a2 - 1)) = a0_3
        · rw [if_pos c14] at H
          have c14b0 : ((wrap64 (a2 - 1)) == a0_3) = true := beq_iff_eq.mpr c14
          have c14b1 : ((wrap64 (a2 - 1)) != a0_3) = false := bne_eq_false_iff_eq.mpr c14
          clear c14
          simp only [Option.some.injEq, Prod.mk.injEq] at H
          obtain ⟨rfl, rfl⟩ := H
          go_enter Try.func27, Try.ntmps27
          go_wp2_with (first | ((with_reducible refine gate_dst (N := 3) rfl ?_); refine box_event ?hg (N := 3) ?hd (cs := #[.int .i64 a0_0, .int .i64 a0_1, .int .i64 a0_2, .int .i64 a0_3, .slice A0_4 l0_4.length c0_4]) (t := 54) ?hr ?_; (case hd => rfl); (case hg => rfl); (case hr => first | (go_simp; done) | (go_simp; rfl)); intro gb695 hg w15 hbox hb; have n0_ := Aside0.mk (below_step (by repeat (first | (with_reducible first | exact HB.out | apply below_alloc | apply pw_below_drewN | apply below_drew1) | exact HB.out)) hb); have n1_ := Aside0.mk (hbox); have n2_ := Aside0.mk ((by rw [hg]; exact (below_size (by repeat (first | (with_reducible first | exact HB.out | apply below_alloc | apply pw_below_drewN | apply below_drew1) | exact HB.out))) : w.heap.size ≤ gb695)); have n3_ := Aside0.mk ((by rw [hg]; exact (below_size (by repeat (first | (with_reducible first | exact HB.out | apply below_alloc | apply pw_below_drewN | apply below_drew1) | exact HB.out))) : w.heap.size ≤ gb695)); clear HB; have HB := n0_; have BK695 := n1_; have GW695 := n2_; have GE695 := n3_; clear n0_ n1_ n2_ n3_; clear hb hbox hg; have hcz16_0 : w15.cell? ⟨gb695, 0, none⟩ = some (.int .i64 a0_0) := (blk_cell BK695.out 0).trans rfl; have hcz16_1 : w15.cell? ⟨gb695, 1, none⟩ = some (.int .i64 a0_1) := (blk_cell BK695.out 1).trans rfl; have hcz16_2 : w15.cell? ⟨gb695, 2, none⟩ = some (.int .i64 a0_2) := (blk_cell BK695.out 2).trans rfl; have hcz16_3 : w15.cell? ⟨gb695, 3, none⟩ = some (.int .i64 a0_3) := (blk_cell BK695.out 3).trans rfl; have hcz16_4 : w15.cell? ⟨gb695, 4, none⟩ = some (.slice A0_4 l0_4.length c0_4) := (blk_cell BK695.out 4).trans rfl; have hfz16_0 := blk_frozen BK695.out 0; have hfz16_1 := blk_frozen BK695.out 1; have hfz16_2 := blk_frozen BK695.out 2; have hfz16_3 := blk_frozen BK695.out 3; have hfz16_4 := blk_frozen BK695.out 4))
          repeat (go_quiet (first | ((with_reducible refine gate_dst (N := 3) rfl ?_); refine box_event ?hg (N := 3) ?hd (cs := #[.int .i64 a0_0, .int .i64 a0_1, .int .i64 a0_2, .int .i64 a0_3, .slice A0_4 l0_4.length c0_4]) (t := 54) ?hr ?_; (case hd => rfl); (case hg => rfl); (case hr => first | (go_simp; done) | (go_simp; rfl)); intro gb695 hg w15 hbox hb; have n0_ := Aside0.mk (below_step (by repeat (first | (with_reducible first | exact HB.out | apply below_alloc | apply pw_below_drewN | apply below_drew1) | exact HB.out)) hb); have n1_ := Aside0.mk (hbox); have n2_ := Aside0.mk ((by rw [hg]; exact (below_size (by repeat (first | (with_reducible first | exact HB.out | apply below_alloc | apply pw_below_drewN | apply below_drew1) | exact HB.out))) : w.heap.size ≤ gb695)); have n3_ := Aside0.mk ((by rw [hg]; exact (below_size (by repeat (first | (with_reducible first | exact HB.out | apply below_alloc | apply pw_below_drewN | apply below_drew1) | exact HB.out))) : w.heap.size ≤ gb695)); clear HB; have HB := n0_; have BK695 := n1_; have GW695 := n2_; have GE695 := n3_; clear n0_ n1_ n2_ n3_; clear hb hbox hg; have hcz16_0 : w15.cell? ⟨gb695, 0, none⟩ = some (.int .i64 a0_0) := (blk_cell BK695.out 0).trans rfl; have hcz16_1 : w15.cell? ⟨gb695, 1, none⟩ = some (.int .i64 a0_1) := (blk_cell BK695.out 1).trans rfl; have hcz16_2 : w15.cell? ⟨gb695, 2, none⟩ = some (.int .i64 a0_2) := (blk_cell BK695.out 2).trans rfl; have hcz16_3 : w15.cell? ⟨gb695, 3, none⟩ = some (.int .i64 a0_3) := (blk_cell BK695.out 3).trans rfl; have hcz16_4 : w15.cell? ⟨gb695, 4, none⟩ = some (.slice A0_4 l0_4.length c0_4) := (blk_cell BK695.out 4).trans rfl; have hfz16_0 := blk_frozen BK695.out 0; have hfz16_1 := blk_frozen BK695.out 1; have hfz16_2 := blk_frozen BK695.out 2; have hfz16_3 := blk_frozen BK695.out 3; have hfz16_4 := blk_frozen BK695.out 4)); try go_wp2_with (first | ((with_reducible refine gate_dst (N := 3) rfl ?_); refine box_event ?hg (N := 3) ?hd (cs := #[.int .i64 a0_0, .int .i64 a0_1, .int .i64 a0_2, .int .i64 a0_3, .slice A0_4 l0_4.length c0_4]) (t := 54) ?hr ?_; (case hd => rfl); (case hg => rfl); (case hr => first | (go_simp; done) | (go_simp; rfl)); intro gb695 hg w15 hbox hb; have n0_ := Aside0.mk (below_step (by repeat (first | (with_reducible first | exact HB.out | apply below_alloc | apply pw_below_drewN | apply below_drew1) | exact HB.out)) hb); have n1_ := Aside0.mk (hbox); have n2_ := Aside0.mk ((by rw [hg]; exact (below_size (by repeat (first | (with_reducible first | exact HB.out | apply below_alloc | apply pw_below_drewN | apply below_drew1) | exact HB.out))) : w.heap.size ≤ gb695)); have n3_ := Aside0.mk ((by rw [hg]; exact (below_size (by repeat (first | (with_reducible first | exact HB.out | apply below_alloc | apply pw_below_drewN | apply below_drew1) | exact HB.out))) : w.heap.size ≤ gb695)); clear HB; have HB := n0_; have BK695 := n1_; have GW695 := n2_; have GE695 := n3_; clear n0_ n1_ n2_ n3_; clear hb hbox hg; have hcz16_0 : w15.cell? ⟨gb695, 0, none⟩ = some (.int .i64 a0_0) := (blk_cell BK695.out 0).trans rfl; have hcz16_1 : w15.cell? ⟨gb695, 1, none⟩ = some (.int .i64 a0_1) := (blk_cell BK695.out 1).trans rfl; have hcz16_2 : w15.cell? ⟨gb695, 2, none⟩ = some (.int .i64 a0_2) := (blk_cell BK695.out 2).trans rfl; have hcz16_3 : w15.cell? ⟨gb695, 3, none⟩ = some (.int .i64 a0_3) := (blk_cell BK695.out 3).trans rfl; have hcz16_4 : w15.cell? ⟨gb695, 4, none⟩ = some (.slice A0_4 l0_4.length c0_4) := (blk_cell BK695.out 4).trans rfl; have hfz16_0 := blk_frozen BK695.out 0; have hfz16_1 := blk_frozen BK695.out 1; have hfz16_2 := blk_frozen BK695.out 2; have hfz16_3 := blk_frozen BK695.out 3; have hfz16_4 := blk_frozen BK695.out 4)))
          go_ret2
          exact ⟨by first | rfl | (simp [errW_none, errW_some] <;> rfl) | (simp [*, errW_none, errW_some] <;> rfl), by repeat (first | (with_reducible first | exact HB.out | apply below_alloc | apply pw_below_drewN | apply below_drew1 | refine below_set ?_ GE695.out) | exact HB.out)⟩
        · rw [if_neg c14] at H
          have c14b0 : ((wrap64 (a2 - 1)) == a0_3) = false := beq_eq_false_iff_ne.mpr c14
          have c14b1 : ((wrap64 (a2 - 1)) != a0_3) = true := bne_iff_ne.mpr c14
          simp only [Option.some.injEq, Prod.mk.injEq] at H
          obtain ⟨rfl, rfl⟩ := H
          go_enter Try.func27, Try.ntmps27
          go_wp2_with (first | ((with_reducible refine gate_dst (N := 3) rfl ?_); refine box_event ?hg (N := 3) ?hd (cs := #[.int .i64 a0_0, .int .i64 a0_1, .int .i64 a0_2, .int .i64 a0_3, .slice A0_4 l0_4.length c0_4]) (t := 54) ?hr ?_; (case hd => rfl); (case hg => rfl); (case hr => first | (go_simp; done) | (go_simp; rfl)); intro gb695 hg w17 hbox hb; have n0_ := Aside0.mk (below_step (by repeat (first | (with_reducible first | exact HB.out | apply below_alloc | apply pw_below_drewN | apply below_drew1) | exact HB.out)) hb); have n1_ := Aside0.mk (hbox); have n2_ := Aside0.mk ((by rw [hg]; exact (below_size (by repeat (first | (with_reducible first | exact HB.out | apply below_alloc | apply pw_below_drewN | apply below_drew1) | exact HB.out))) : w.heap.size ≤ gb695)); have n3_ := Aside0.mk ((by rw [hg]; exact (below_size (by repeat (first | (with_reducible first | exact HB.out | apply below_alloc | apply pw_below_drewN | apply below_drew1) | exact HB.out))) : w.heap.size ≤ gb695)); clear HB; have HB := n0_; have BK695 := n1_; have GW695 := n2_; have GE695 := n3_; clear n0_ n1_ n2_ n3_; clear hb hbox hg; have hcz18_0 : w17.cell? ⟨gb695, 0, none⟩ = some (.int .i64 a0_0) := (blk_cell BK695.out 0).trans rfl; have hcz18_1 : w17.cell? ⟨gb695, 1, none⟩ = some (.int .i64 a0_1) := (blk_cell BK695.out 1).trans rfl; have hcz18_2 : w17.cell? ⟨gb695, 2, none⟩ = some (.int .i64 a0_2) := (blk_cell BK695.out 2).trans rfl; have hcz18_3 : w17.cell? ⟨gb695, 3, none⟩ = some (.int .i64 a0_3) := (blk_cell BK695.out 3).trans rfl; have hcz18_4 : w17.cell? ⟨gb695, 4, none⟩ = some (.slice A0_4 l0_4.length c0_4) := (blk_cell BK695.out 4).trans rfl; have hfz18_0 := blk_frozen BK695.out 0; have hfz18_1 := blk_frozen BK695.out 1; have hfz18_2 := blk_frozen BK695.out 2; have hfz18_3 := blk_frozen BK695.out 3; have hfz18_4 := blk_frozen BK695.out 4))
          repeat (go_quiet (first | ((with_reducible refine gate_dst (N := 3) rfl ?_); refine box_event ?hg (N := 3) ?hd (cs := #[.int .i64 a0_0, .int .i64 a0_1, .int .i64 a0_2, .int .i64 a0_3, .slice A0_4 l0_4.length c0_4]) (t := 54) ?hr ?_; (case hd => rfl); (case hg => rfl); (case hr => first | (go_simp; done) | (go_simp; rfl)); intro gb695 hg w17 hbox hb; have n0_ := Aside0.mk (below_step (by repeat (first | (with_reducible first | exact HB.out | apply below_alloc | apply pw_below_drewN | apply below_drew1) | exact HB.out)) hb); have n1_ := Aside0.mk (hbox); have n2_ := Aside0.mk ((by rw [hg]; exact (below_size (by repeat (first | (with_reducible first | exact HB.out | apply below_alloc | apply pw_below_drewN | apply below_drew1) | exact HB.out))) : w.heap.size ≤ gb695)); have n3_ := Aside0.mk ((by rw [hg]; exact (below_size (by repeat (first | (with_reducible first | exact HB.out | apply below_alloc | apply pw_below_drewN | apply below_drew1) | exact HB.out))) : w.heap.size ≤ gb695)); clear HB; have HB := n0_; have BK695 := n1_; have GW695 := n2_; have GE695 := n3_; clear n0_ n1_ n2_ n3_; clear hb hbox hg; have hcz18_0 : w17.cell? ⟨gb695, 0, none⟩ = some (.int .i64 a0_0) := (blk_cell BK695.out 0).trans rfl; have hcz18_1 : w17.cell? ⟨gb695, 1, none⟩ = some (.int .i64 a0_1) := (blk_cell BK695.out 1).trans rfl; have hcz18_2 : w17.cell? ⟨gb695, 2, none⟩ = some (.int .i64 a0_2) := (blk_cell BK695.out 2).trans rfl; have hcz18_3 : w17.cell? ⟨gb695, 3, none⟩ = some (.int .i64 a0_3) := (blk_cell BK695.out 3).trans rfl; have hcz18_4 : w17.cell? ⟨gb695, 4, none⟩ = some (.slice A0_4 l0_4.length c0_4) := (blk_cell BK695.out 4).trans rfl; have hfz18_0 := blk_frozen BK695.out 0; have hfz18_1 := blk_frozen BK695.out 1; have hfz18_2 := blk_frozen BK695.out 2; have hfz18_3 := blk_frozen BK695.out 3; have hfz18_4 := blk_frozen BK695.out 4)); try go_wp2_with (first | ((with_reducible refine gate_dst (N := 3) rfl ?_); refine box_event ?hg (N := 3) ?hd (cs := #[.int .i64 a0_0, .int .i64 a0_1, .int .i64 a0_2, .int .i64 a0_3, .slice A0_4 l0_4.length c0_4]) (t := 54) ?hr ?_; (case hd => rfl); (case hg => rfl); (case hr => first | (go_simp; done) | (go_simp; rfl)); intro gb695 hg w17 hbox hb; have n0_ := Aside0.mk (below_step (by repeat (first | (with_reducible first | exact HB.out | apply below_alloc | apply pw_below_drewN | apply below_drew1) | exact HB.out)) hb); have n1_ := Aside0.mk (hbox); have n2_ := Aside0.mk ((by rw [hg]; exact (below_size (by repeat (first | (with_reducible first | exact HB.out | apply below_alloc | apply pw_below_drewN | apply below_drew1) | exact HB.out))) : w.heap.size ≤ gb695)); have n3_ := Aside0.mk ((by rw [hg]; exact (below_size (by repeat (first | (with_reducible first | exact HB.out | apply below_alloc | apply pw_below_drewN | apply below_drew1) | exact HB.out))) : w.heap.size ≤ gb695)); clear HB; have HB := n0_; have BK695 := n1_; have GW695 := n2_; have GE695 := n3_; clear n0_ n1_ n2_ n3_; clear hb hbox hg; have hcz18_0 : w17.cell? ⟨gb695, 0, none⟩ = some (.int .i64 a0_0) := (blk_cell BK695.out 0).trans rfl; have hcz18_1 : w17.cell? ⟨gb695, 1, none⟩ = some (.int .i64 a0_1) := (blk_cell BK695.out 1).trans rfl; have hcz18_2 : w17.cell? ⟨gb695, 2, none⟩ = some (.int .i64 a0_2) := (blk_cell BK695.out 2).trans rfl; have hcz18_3 : w17.cell? ⟨gb695, 3, none⟩ = some (.int .i64 a0_3) := (blk_cell BK695.out 3).trans rfl; have hcz18_4 : w17.cell? ⟨gb695, 4, none⟩ = some (.slice A0_4 l0_4.length c0_4) := (blk_cell BK695.out 4).trans rfl; have hfz18_0 := blk_frozen BK695.out 0; have hfz18_1 := blk_frozen BK695.out 1; have hfz18_2 := blk_frozen BK695.out 2; have hfz18_3 := blk_frozen BK695.out 3; have hfz18_4 := blk_frozen BK695.out 4)))
          go_ret2
          exact ⟨by first | rfl | (simp [errW_none, errW_some] <;> rfl) | (simp [*, errW_none, errW_some] <;> rfl), by repeat (first | (with_reducible first | exact HB.out | apply below_alloc | apply pw_below_drewN | apply below_drew1 | refine below_set ?_ GE695.out) | exact HB.out)⟩
      · rw [if_neg c13] at H
        have c13b0 : decide (a0_3 < a2) = false := decide_eq_false c13
        clear c13
        have H' := Aside0.mk H
        clear H
        go_enter Try.func27, Try.ntmps27
        go_wp2_with (first | ((with_reducible refine gate_dst (N := 3) rfl ?_); refine box_event ?hg (N := 3) ?hd (cs := #[.int .i64 a0_0, .int .i64 a0_1, .int .i64 a0_2, .int .i64 a0_3, .slice A0_4 l0_4.length c0_4]) (t := 54) ?hr ?_; (case hd => rfl); (case hg => rfl); (case hr => first | (go_simp; done) | (go_simp; rfl)); intro gb695 hg w19 hbox hb; have n0_ := Aside0.mk (below_step (by repeat (first | (with_reducible first | exact HB.out | apply below_alloc | apply pw_below_drewN | apply below_drew1) | exact HB.out)) hb); have n1_ := Aside0.mk (hbox); have n2_ := Aside0.mk ((by rw [hg]; exact (below_size (by repeat (first | (with_reducible first | exact HB.out | apply below_alloc | apply pw_below_drewN | apply below_drew1) | exact HB.out))) : w.heap.size ≤ gb695)); have n3_ := Aside0.mk ((by rw [hg]; exact (below_size (by repeat (first | (with_reducible first | exact HB.out | apply below_alloc | apply pw_below_drewN | apply below_drew1) | exact HB.out))) : w.heap.size ≤ gb695)); clear HB; have HB := n0_; have BK695 := n1_; have GW695 := n2_; have GE695 := n3_; clear n0_ n1_ n2_ n3_; clear hb hbox hg; have hcz20_0 : w19.cell? ⟨gb695, 0, none⟩ = some (.int .i64 a0_0) := (blk_cell BK695.out 0).trans rfl; have hcz20_1 : w19.cell? ⟨gb695, 1, none⟩ = some (.int .i64 a0_1) := (blk_cell BK695.out 1).trans rfl; have hcz20_2 : w19.cell? ⟨gb695, 2, none⟩ = some (.int .i64 a0_2) := (blk_cell BK695.out 2).trans rfl; have hcz20_3 : w19.cell? ⟨gb695, 3, none⟩ = some (.int .i64 a0_3) := (blk_cell BK695.out 3).trans rfl; have hcz20_4 : w19.cell? ⟨gb695, 4, none⟩ = some (.slice A0_4 l0_4.length c0_4) := (blk_cell BK695.out 4).trans rfl; have hfz20_0 := blk_frozen BK695.out 0; have hfz20_1 := blk_frozen BK695.out 1; have hfz20_2 := blk_frozen BK695.out 2; have hfz20_3 := blk_frozen BK695.out 3; have hfz20_4 := blk_frozen BK695.out 4))
        repeat (go_quiet (first | ((with_reducible refine gate_dst (N := 3) rfl ?_); refine box_event ?hg (N := 3) ?hd (cs := #[.int .i64 a0_0, .int .i64 a0_1, .int .i64 a0_2, .int .i64 a0_3, .slice A0_4 l0_4.length c0_4]) (t := 54) ?hr ?_; (case hd => rfl); (case hg => rfl); (case hr => first | (go_simp; done) | (go_simp; rfl)); intro gb695 hg w19 hbox hb; have n0_ := Aside0.mk (below_step (by repeat (first | (with_reducible first | exact HB.out | apply below_alloc | apply pw_below_drewN | apply below_drew1) | exact HB.out)) hb); have n1_ := Aside0.mk (hbox); have n2_ := Aside0.mk ((by rw [hg]; exact (below_size (by repeat (first | (with_reducible first | exact HB.out | apply below_alloc | apply pw_below_drewN | apply below_drew1) | exact HB.out))) : w.heap.size ≤ gb695)); have n3_ := Aside0.mk ((by rw [hg]; exact (below_size (by repeat (first | (with_reducible first | exact HB.out | apply below_alloc | apply pw_below_drewN | apply below_drew1) | exact HB.out))) : w.heap.size ≤ gb695)); clear HB; have HB := n0_; have BK695 := n1_; have GW695 := n2_; have GE695 := n3_; clear n0_ n1_ n2_ n3_; clear hb hbox hg; have hcz20_0 : w19.cell? ⟨gb695, 0, none⟩ = some (.int .i64 a0_0) := (blk_cell BK695.out 0).trans rfl; have hcz20_1 : w19.cell? ⟨gb695, 1, none⟩ = some (.int .i64 a0_1) := (blk_cell BK695.out 1).trans rfl; have hcz20_2 : w19.cell? ⟨gb695, 2, none⟩ = some (.int .i64 a0_2) := (blk_cell BK695.out 2).trans rfl; have hcz20_3 : w19.cell? ⟨gb695, 3, none⟩ = some (.int .i64 a0_3) := (blk_cell BK695.out 3).trans rfl; have hcz20_4 : w19.cell? ⟨gb695, 4, none⟩ = some (.slice A0_4 l0_4.length c0_4) := (blk_cell BK695.out 4).trans rfl; have hfz20_0 := blk_frozen BK695.out 0; have hfz20_1 := blk_frozen BK695.out 1; have hfz20_2 := blk_frozen BK695.out 2; have hfz20_3 := blk_frozen BK695.out 3; have hfz20_4 := blk_frozen BK695.out 4)); try go_wp2_with (first | ((with_reducible refine gate_dst (N := 3) rfl ?_); refine box_event ?hg (N := 3) ?hd (cs := #[.int .i64 a0_0, .int .i64 a0_1, .int .i64 a0_2, .int .i64 a0_3, .slice A0_4 l0_4.length c0_4]) (t := 54) ?hr ?_; (case hd => rfl); (case hg => rfl); (case hr => first | (go_simp; done) | (go_simp; rfl)); intro gb695 hg w19 hbox hb; have n0_ := Aside0.mk (below_step (by repeat (first | (with_reducible first | exact HB.out | apply below_alloc | apply pw_below_drewN | apply below_drew1) | exact HB.out)) hb); have n1_ := Aside0.mk (hbox); have n2_ := Aside0.mk ((by rw [hg]; exact (below_size (by repeat (first | (with_reducible first | exact HB.out | apply below_alloc | apply pw_below_drewN | apply below_drew1) | exact HB.out))) : w.heap.size ≤ gb695)); have n3_ := Aside0.mk ((by rw [hg]; exact (below_size (by repeat (first | (with_reducible first | exact HB.out | apply below_alloc | apply pw_below_drewN | apply below_drew1) | exact HB.out))) : w.heap.size ≤ gb695)); clear HB; have HB := n0_; have BK695 := n1_; have GW695 := n2_; have GE695 := n3_; clear n0_ n1_ n2_ n3_; clear hb hbox hg; have hcz20_0 : w19.cell? ⟨gb695, 0, none⟩ = some (.int .i64 a0_0) := (blk_cell BK695.out 0).trans rfl; have hcz20_1 : w19.cell? ⟨gb695, 1, none⟩ = some (.int .i64 a0_1) := (blk_cell BK695.out 1).trans rfl; have hcz20_2 : w19.cell? ⟨gb695, 2, none⟩ = some (.int .i64 a0_2) := (blk_cell BK695.out 2).trans rfl; have hcz20_3 : w19.cell? ⟨gb695, 3, none⟩ = some (.int .i64 a0_3) := (blk_cell BK695.out 3).trans rfl; have hcz20_4 : w19.cell? ⟨gb695, 4, none⟩ = some (.slice A0_4 l0_4.length c0_4) := (blk_cell BK695.out 4).trans rfl; have hfz20_0 := blk_frozen BK695.out 0; have hfz20_1 := blk_frozen BK695.out 1; have hfz20_2 := blk_frozen BK695.out 2; have hfz20_3 := blk_frozen BK695.out 3; have hfz20_4 := blk_frozen BK695.out 4)))
        go_loopg [8] k (fun kq v8 w' => ∃ (x8_1 : Int), v8 = .int .i64 x8_1 ∧ Aside0 (spec_MakerAsk.l0 kq a2 x8_1 a0_0 a0_1 a0_2 a0_3 l0_4 = some (r1, r2)) ∧ Aside0 (kq ≤ k) ∧ Aside0 (w'.heap[gb695]? = some (.cells #[.int .i64 a0_0, .int .i64 a0_1, .int .i64 a0_2, .int .i64 a0_3, (.slice A0_4 l0_4.length c0_4)] 54 (0, 0))) ∧ Aside0 (Below w.heap.size w w'))
        case atStart => exact ⟨(0), (by first | rfl | (simp; done) | (simp [*]; done)), H', ⟨Nat.le_refl _⟩, ⟨by (with_reducible repeat (first | refine blk_drewN ?_ _ | refine blk_drew ?_ | refine blk_alloc ?_ _)); exact BK695.out⟩, ⟨by repeat (first | (with_reducible first | exact HB.out | apply below_alloc | apply pw_below_drewN | apply below_drew1 | refine below_set ?_ GE695.out) | exact HB.out)⟩⟩
        case round =>
          clear H'
          try clear c1
          try clear c2
          try clear p2
          try clear c4
          try clear c4b0
          try clear p6
          try clear c7
          try clear c7b0
          try clear c8
          try clear c8b0
          try clear c8b1
          try clear c13
          try clear c13b0
          try clear c14
          try clear c14b0
          try clear c14b1
          try clear hcz10_0
          try clear hcz10_1
          try clear hcz10_2
          try clear hcz10_3
          try clear hcz10_4
          try clear hcz12_0
          try clear hcz12_1
          try clear hcz12_2
          try clear hcz12_3
          try clear hcz12_4
          try clear hcz16_0
          try clear hcz16_1
          try clear hcz16_2
          try clear hcz16_3
          try clear hcz16_4
          try clear hcz18_0
          try clear hcz18_1
          try clear hcz18_2
          try clear hcz18_3
          try clear hcz18_4
          try clear hcz20_0
          try clear hcz20_1
          try clear hcz20_2
          try clear hcz20_3
          try clear hcz20_4
          try clear hcz6_0
          try clear hcz6_1
          try clear hcz6_2
          try clear hcz6_3
          try clear hcz6_4
          try clear hfz10_0
          try clear hfz10_1
          try clear hfz10_2
          try clear hfz10_3
          try clear hfz10_4
          try clear hfz12_0
          try clear hfz12_1
          try clear hfz12_2
          try clear hfz12_3
          try clear hfz12_4
          try clear hfz16_0
          try clear hfz16_1
          try clear hfz16_2
          try clear hfz16_3
          try clear hfz16_4
          try clear hfz18_0
          try clear hfz18_1
          try clear hfz18_2
          try clear hfz18_3
          try clear hfz18_4
          try clear hfz20_0
          try clear hfz20_1
          try clear hfz20_2
          try clear hfz20_3
          try clear hfz20_4
          try clear hfz6_0
          try clear hfz6_1
          try clear hfz6_2
          try clear hfz6_3
          try clear hfz6_4
          obtain ⟨x8_1, rfl, HA, HK1, BK695, HB⟩ := hrel
          cases gk with
          | zero => exact absurd HA.out (by simp [spec_MakerAsk.l0])
          | succ k1 =>
            have H := HA.out
            clear HA
            simp only [spec_MakerAsk.l0] at H
            by_cases c21 : x8_1 < (l0_4.length : Int)
            · rw [if_pos c21] at H
              have c21b0 : decide (x8_1 < (l0_4.length : Int)) = true := decide_eq_true c21
              clear c21
              by_cases c22 : 0 ≤ x8_1
              · rw [if_pos c22] at H
                have c22b0 : decide (0 ≤ x8_1) = true := decide_eq_true c22
                clear c22
                by_cases c23 : ((rd_Mark l0_4 x8_1).f0) = a2
                · rw [if_pos c23] at H
                  have c23b0 : (((rd_Mark l0_4 x8_1).f0) == a2) = true := beq_iff_eq.mpr c23
                  have c23b1 : (((rd_Mark l0_4 x8_1).f0) != a2) = false := bne_eq_false_iff_eq.mpr c23
                  clear c23
                  simp only [Option.some.injEq, Prod.mk.injEq] at H
                  obtain ⟨rfl, rfl⟩ := H
                  have hcz24_0 : wr.cell? ⟨gb695, 0, none⟩ = some (.int .i64 a0_0) := (blk_cell BK695.out 0).trans rfl
                  have hcz24_1 : wr.cell? ⟨gb695, 1, none⟩ = some (.int .i64 a0_1) := (blk_cell BK695.out 1).trans rfl
                  have hcz24_2 : wr.cell? ⟨gb695, 2, none⟩ = some (.int .i64 a0_2) := (blk_cell BK695.out 2).trans rfl
                  have hcz24_3 : wr.cell? ⟨gb695, 3, none⟩ = some (.int .i64 a0_3) := (blk_cell BK695.out 3).trans rfl
                  have hcz24_4 : wr.cell? ⟨gb695, 4, none⟩ = some (.slice A0_4 l0_4.length c0_4) := (blk_cell BK695.out 4).trans rfl
                  have hfz24_0 := blk_frozen BK695.out 0
                  have hfz24_1 := blk_frozen BK695.out 1
                  have hfz24_2 := blk_frozen BK695.out 2
                  have hfz24_3 := blk_frozen BK695.out 3
                  have hfz24_4 := blk_frozen BK695.out 4
                  have p696 : 0 ≤ (x8_1 : Int) := of_decide_eq_true (by first | (with_reducible assumption) | assumption)
                  have q696 : x8_1 < (l0_4.length : Int) := of_decide_eq_true (by first | (with_reducible assumption) | assumption)
                  obtain ⟨ad696, e696, hx696_0, hx696_1⟩ := at_Mark HR0_4.out x8_1 p696 q696
                  cases e696
                  replace hx696_0 := (HB.out.cell (World.block_lt_of_cell? w _ hx696_0)).trans hx696_0
                  replace hx696_1 := (HB.out.cell (World.block_lt_of_cell? w _ hx696_1)).trans hx696_1
                  replace p696 := eq_true p696
                  replace q696 := eq_true q696
                  have p697 : 0 ≤ (x8_1 : Int) := of_decide_eq_true (by first | (with_reducible assumption) | assumption)
                  have q697 : x8_1 < (l0_4.length : Int) := of_decide_eq_true (by first | (with_reducible assumption) | assumption)
                  obtain ⟨ad697, e697, hx697_0, hx697_1⟩ := at_Mark HR0_4.out x8_1 p697 q697
                  obtain rfl : ad696 = ad697 := (by injection e697)
                  replace hx697_0 := (HB.out.cell (World.block_lt_of_cell? w _ hx697_0)).trans hx697_0
                  replace hx697_1 := (HB.out.cell (World.block_lt_of_cell? w _ hx697_1)).trans hx697_1
                  replace p697 := eq_true p697
                  replace q697 := eq_true q697
                  go_wp2
                  repeat (go_quiet (fail); try go_wp2)
                  go_ret2
                  exact ⟨by first | rfl | (simp [errW_none, errW_some] <;> rfl) | (simp [*, errW_none, errW_some] <;> rfl), by repeat (first | (with_reducible first | exact HB.out | apply below_alloc | apply pw_below_drewN | apply below_drew1 | refine below_set ?_ GE695.out) | exact HB.out)⟩
                · rw [if_neg c23] at H
                  have c23b0 : (((rd_Mark l0_4 x8_1).f0) == a2) = false := beq_eq_false_iff_ne.mpr c23
                  have c23b1 : (((rd_Mark l0_4 x8_1).f0) != a2) = true := bne_iff_ne.mpr c23
                  have H' := Aside0.mk H
                  clear H
                  have hcz25_0 : wr.cell? ⟨gb695, 0, none⟩ = some (.int .i64 a0_0) := (blk_cell BK695.out 0).trans rfl
                  have hcz25_1 : wr.cell? ⟨gb695, 1, none⟩ = some (.int .i64 a0_1) := (blk_cell BK695.out 1).trans rfl
                  have hcz25_2 : wr.cell? ⟨gb695, 2, none⟩ = some (.int .i64 a0_2) := (blk_cell BK695.out 2).trans rfl
                  have hcz25_3 : wr.cell? ⟨gb695, 3, none⟩ = some (.int .i64 a0_3) := (blk_cell BK695.out 3).trans rfl
                  have hcz25_4 : wr.cell? ⟨gb695, 4, none⟩ = some (.slice A0_4 l0_4.length c0_4) := (blk_cell BK695.out 4).trans rfl
                  have hfz25_0 := blk_frozen BK695.out 0
                  have hfz25_1 := blk_frozen BK695.out 1
                  have hfz25_2 := blk_frozen BK695.out 2
                  have hfz25_3 := blk_frozen BK695.out 3
                  have hfz25_4 := blk_frozen BK695.out 4
                  have p696 : 0 ≤ (x8_1 : Int) := of_decide_eq_true (by first | (with_reducible assumption) | assumption)
                  have q696 : x8_1 < (l0_4.length : Int) := of_decide_eq_true (by first | (with_reducible assumption) | assumption)
                  obtain ⟨ad696, e696, hx696_0, hx696_1⟩ := at_Mark HR0_4.out x8_1 p696 q696
                  cases e696
                  replace hx696_0 := (HB.out.cell (World.block_lt_of_cell? w _ hx696_0)).trans hx696_0
                  replace hx696_1 := (HB.out.cell (World.block_lt_of_cell? w _ hx696_1)).trans hx696_1
                  replace p696 := eq_true p696
                  replace q696 := eq_true q696
                  go_wp2
                  repeat (go_quiet (fail); try go_wp2)
                  go_roundg k1
                  case measure => have := HK1.out; omega
                  case rel => exact ⟨(wrap64 (x8_1 + 1)), (by first | rfl | (simp; done) | (simp [*]; done)), H', ⟨by have := HK1.out; omega⟩, ⟨by (with_reducible repeat (first | refine blk_drewN ?_ _ | refine blk_drew ?_ | refine blk_alloc ?_ _)); exact BK695.out⟩, ⟨by repeat (first | (with_reducible first | exact HB.out | apply below_alloc | apply pw_below_drewN | apply below_drew1 | refine below_set ?_ GE695.out) | exact HB.out)⟩⟩
              · rw [if_neg c22] at H
                exact absurd H (by simp)
            · rw [if_neg c21] at H
              have c21b0 : decide (x8_1 < (l0_4.length : Int)) = false := decide_eq_false c21
              clear c21
              simp only [Option.some.injEq, Prod.mk.injEq] at H
              obtain ⟨rfl, rfl⟩ := H
              have hcz26_0 : wr.cell? ⟨gb695, 0, none⟩ = some (.int .i64 a0_0) := (blk_cell BK695.out 0).trans rfl
              have hcz26_1 : wr.cell? ⟨gb695, 1, none⟩ = some (.int .i64 a0_1) := (blk_cell BK695.out 1).trans rfl
              have hcz26_2 : wr.cell? ⟨gb695, 2, none⟩ = some (.int .i64 a0_2) := (blk_cell BK695.out 2).trans rfl
              have hcz26_3 : wr.cell? ⟨gb695, 3, none⟩ = some (.int .i64 a0_3) := (blk_cell BK695.out 3).trans rfl
              have hcz26_4 : wr.cell? ⟨gb695, 4, none⟩ = some (.slice A0_4 l0_4.length c0_4) := (blk_cell BK695.out 4).trans rfl
              have hfz26_0 := blk_frozen BK695.out 0
              have hfz26_1 := blk_frozen BK695.out 1
              have hfz26_2 := blk_frozen BK695.out 2
              have hfz26_3 := blk_frozen BK695.out 3
              have hfz26_4 := blk_frozen BK695.out 4
              go_wp2
              repeat (go_quiet (fail); try go_wp2)
              go_ret2
              exact ⟨by first | rfl | (simp [errW_none, errW_some] <;> rfl) | (simp [*, errW_none, errW_some] <;> rfl), by repeat (first | (with_reducible first | exact HB.out | apply below_alloc | apply pw_below_drewN | apply below_drew1 | refine below_set ?_ GE695.out) | exact HB.out)⟩

end Go.Proofs.Ytgkeapbeogmfjaa.Q
