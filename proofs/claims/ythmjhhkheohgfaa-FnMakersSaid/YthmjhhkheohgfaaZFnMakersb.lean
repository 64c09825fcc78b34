/- Made by a program of ours out of the print of the loaded functions: for each of some functions a plain function, and the walk that shows that a call comes to what it says. No condition but those of each theorem. -/
import Derived.Test.YthmjhhkheohgfaaZFnMakers0
import Derived.Test.YthmjhhkheohgfaaZFnMakersa
namespace Go.Proofs.Ythmjhhkheohgfaa.Q
open Go.RowKit Go.Proofs.YthmjhhkheohgfaaW.PrintWords Go.Proofs.YthmjhhkheohgfaaW.PrintLast Go.Proofs.YthmjhhkheohgfaaW.PrintMore
attribute [local go_sem] max2_int min2_int max_two min_two max_three min_three max_four min_four   -- for this text's walks alone
set_option linter.unusedVariables false
set_option linter.unusedSimpArgs false
theorem qb0_ {P : Prop} (h : P := by repeat (first | (with_reducible first | exact HB.out | apply below_alloc | apply pw_below_drewN | apply below_drew1) | exact HB.out)) : P := h
theorem qb1_ {P : Prop} (h : P := by repeat (first | (with_reducible first | exact HB.out | apply below_alloc | apply pw_below_drewN | apply below_drew1 | refine below_set ?_ GE749.out) | exact HB.out)) : P := h
theorem qb2_ {P : Prop} (h : P := by repeat (first | (with_reducible first | exact HB.out | apply below_alloc | apply pw_below_drewN | apply below_drew1 | refine below_set ?_ (IsS_l1Cur.ge HI0.out) | refine below_set ?_ GE779.out | refine below_set ?_ GE786.out) | exact HB.out)) : P := h
theorem qb3_ {P : Prop} (h : P := by repeat (first | (with_reducible first | exact HK.out | apply KeepBut.set_ | apply keep_drewN | apply keep_drew | apply keep_alloc | refine keep_far ?_ GW779.out _ | refine keep_far ?_ GW786.out _) | exact HK.out)) : P := h
theorem qb4_ {P : Prop} (h : P := by first | rfl | (simp [errW_none, errW_some] <;> rfl) | (simp [*, errW_none, errW_some] <;> rfl)) : P := h
theorem qb5_ {P : Prop} (h : P := by (with_reducible repeat (first | apply Kd.R_alloc | apply Kd.R_drewN | apply Kd.R_drew)); exact Kd.R_mono (Kd.R_far (p := ⟨gb761, 3, none⟩) (Kd.R_far (p := ⟨gb761, 2, none⟩) (Kd.R_types HO_762004.out BK761.out (by decide)) (fun _ hk => hk.2) (.int .i64 a2)) (fun _ hk => hk.2) (.int .i64 a3)) (fun _ hk => trivial)) : P := h
theorem qb6_ {P : Prop} (h : P := by first | rfl | (simp; done) | (simp [*]; done)) : P := h
theorem qb7_ {P : Prop} (h : P := by (with_reducible repeat (first | apply Kd.R_alloc | apply Kd.R_drewN | apply Kd.R_drew)); exact Kd.R_mono HO766.out (fun _ hk => ⟨trivial, hk⟩)) : P := h
theorem qb8_ {P : Prop} (h : P := by first | exact Kd.R_nil _ _ _ _ _ | exact Kd.N_nil _ _ _ _ _ | exact Kd.V_nil _ _ _ _ _ | exact Kd.Q_nil _ _ _ _ _ | exact Kd.S_nil _ _ _ _ _) : P := h
theorem qbh0_ {P : Prop} (h : P := by repeat' first | (with_reducible exact ih0 _ _ _ _ _ _ _) | (with_reducible exact LeO.refl _) | (with_reducible exact LeO.none _) | (with_reducible refine LeO.ite ?_ ?_) | (with_reducible refine LeO.bind ?_ (fun _ => ?_)) | exact ih0 _ _ _ _ _ _ _ | exact LeO.none _ | refine LeO.ite ?_ ?_ | refine LeO.bind ?_ (fun _ => ?_)) : P := h
theorem qbh1_ {P : Prop} (h : P := by repeat' first | (with_reducible exact ih0 _ _ _ _ _ _ _ _ _ _ _ _ _ _) | (with_reducible exact ih1 _ _ _ _ _ _ _ _ _) | (with_reducible exact spec_MakerAsk.mono _ _ _ _ _ _ _ _) | (with_reducible exact LeO.refl _) | (with_reducible exact LeO.none _) | (with_reducible refine LeO.ite ?_ ?_) | (with_reducible refine LeO.bind ?_ (fun _ => ?_)) | exact ih0 _ _ _ _ _ _ _ _ _ _ _ _ _ _ | exact ih1 _ _ _ _ _ _ _ _ _ | exact spec_MakerAsk.mono _ _ _ _ _ _ _ _ | exact LeO.none _ | refine LeO.ite ?_ ?_ | refine LeO.bind ?_ (fun _ => ?_)) : P := h
theorem qbh2_ {P : Prop} (h : P := by repeat' first | (with_reducible exact ih0 _ _ _ _ _ _ _ _ _) | (with_reducible exact ih1 _ _ _ _ _ _ _ _ _) | (with_reducible exact ih2 _ _ _ _ _ _ _ _ _ _ _) | (with_reducible exact spec_MakerPut.mono _ _ _ _ _ _ _ _ _ _) | (with_reducible exact LeO.refl _) | (with_reducible exact LeO.none _) | (with_reducible refine LeO.ite ?_ ?_) | (with_reducible refine LeO.bind ?_ (fun _ => ?_)) | exact ih0 _ _ _ _ _ _ _ _ _ | exact ih1 _ _ _ _ _ _ _ _ _ | exact ih2 _ _ _ _ _ _ _ _ _ _ _ | exact spec_MakerPut.mono _ _ _ _ _ _ _ _ _ _ | exact LeO.none _ | refine LeO.ite ?_ ?_ | refine LeO.bind ?_ (fun _ => ?_)) : P := h

/-! ### spec_MakerAsk: function 78 -/
def spec_MakerAsk.l0 : Nat → Int → Int → Int → Int → Int → Int → List (S_Mark) → Option (Int × Int)
  | 0, _, _, _, _, _, _, _ => none
  | k + 1, x2, x8, x750000, x750001, x750002, x750003, x750004 => if x8 < (x750004.length : Int) then (if 0 ≤ x8 then (if ((rd_Mark x750004 x8).f0) = x2 then (some (1, (rd_Mark x750004 x8).f1)) else (spec_MakerAsk.l0 k x2 (wrap64 (x8 + 1)) x750000 x750001 x750002 x750003 x750004)) else (none)) else (some (2, 0))
def spec_MakerAsk.f (k : Nat) (a0_0 : Int) (a0_1 : Int) (a0_2 : Int) (a0_3 : Int) (l0_4 : List (S_Mark)) (a1 : Int) (a2 : Int) : Option (Int × Int) := if a1 < a0_2 then (some (4, 0)) else (if a1 > a0_2 then (if a2 = 0 then (some (0, 0)) else (some (3, 0))) else (if a2 > a0_3 then (if (wrap64 (a2 - 1)) = a0_3 then (some (0, 0)) else (some (3, 0))) else (spec_MakerAsk.l0 k a2 0 a0_0 a0_1 a0_2 a0_3 l0_4)))
theorem spec_MakerAsk.mono_l : ∀ k, (∀ y0 y1 y2 y3 y4 y5 y6, LeO (spec_MakerAsk.l0 k y0 y1 y2 y3 y4 y5 y6) (spec_MakerAsk.l0 (k + 1) y0 y1 y2 y3 y4 y5 y6))
  | 0 => fun _ _ _ _ _ _ _ r h => by simp [spec_MakerAsk.l0] at h
  | k + 1 => by
    have ih0 := spec_MakerAsk.mono_l k
    · intro y0 y1 y2 y3 y4 y5 y6
      unfold spec_MakerAsk.l0
      exact qbh0_
theorem spec_MakerAsk.mono : ∀ a0 a1 a2 a3 a4 a5 a6 k, LeO (spec_MakerAsk.f k a0 a1 a2 a3 a4 a5 a6) (spec_MakerAsk.f (k + 1) a0 a1 a2 a3 a4 a5 a6) := by
  intro a0 a1 a2 a3 a4 a5 a6 k
  have ih0 := spec_MakerAsk.mono_l k
  unfold spec_MakerAsk.f
  exact qbh0_
set_option maxHeartbeats 8000000 in
set_option maxRecDepth 100000 in
theorem spec_MakerAsk.calls (k : Nat) (a0_0 : Int) (a0_1 : Int) (a0_2 : Int) (a0_3 : Int) (A0_4 : Option Addr) (c0_4 : Nat) (l0_4 : List (S_Mark)) (a1 : Int) (a2 : Int) (r1 : Int) (r2 : Int) (w : World) (hr0_4 : Kd.C k_Mark w A0_4 l0_4.length l0_4) (hc0_4 : l0_4.length ≤ c0_4) (h : spec_MakerAsk.f k a0_0 a0_1 a0_2 a0_3 l0_4 a1 a2 = some (r1, r2)) :
    Calls Try.prog 78 #[.agg #[.int .i64 a0_0, .int .i64 a0_1, .int .i64 a0_2, .int .i64 a0_3, .slice A0_4 l0_4.length c0_4], .int .i64 a1, .int .i64 a2] w fun e w' => e = .returned (.tuple #[.int .i64 r1, .int .i64 r2]) ∧ Below w.heap.size w w' := by
  have hu38 := Try.underlying38
  have HR0_4 := Aside0.mk hr0_4
  have HC0_4 := Aside0.mk hc0_4
  clear hr0_4 hc0_4
  have HB := Aside0.mk (Below.refl w.heap.size w)
  have H : (if a1 < a0_2 then (some (4, 0)) else (if a1 > a0_2 then (if a2 = 0 then (some (0, 0)) else (some (3, 0))) else (if a2 > a0_3 then (if (wrap64 (a2 - 1)) = a0_3 then (some (0, 0)) else (some (3, 0))) else (spec_MakerAsk.l0 k a2 0 a0_0 a0_1 a0_2 a0_3 l0_4)))) = some (r1, r2) := h
  clear h
  by_cases c4 : a1 < a0_2
  · rw [if_pos c4] at H
    have c4b0 : decide (a1 < a0_2) = true := decide_eq_true c4
    clear c4
    simp only [Option.some.injEq, Prod.mk.injEq] at H
    obtain ⟨rfl, rfl⟩ := H
    go_enter Try.func78, Try.ntmps78
    go_wp2_with (first | (go_quiet (fail)) | ((with_reducible refine gate_dst (N := 3) rfl ?_); refine box_event ?hg (N := 3) ?hd (cs := #[.int .i64 a0_0, .int .i64 a0_1, .int .i64 a0_2, .int .i64 a0_3, .slice A0_4 l0_4.length c0_4]) (t := 38) ?hr ?_; (case hd => rfl); (case hg => rfl); (case hr => first | (go_simp; done) | (go_simp; rfl)); intro gb749 hg w5 hbox hb; have BK749 := Aside0.mk (hbox); have GW749 := Aside0.mk ((by rw [hg]; exact (below_size (qb0_)) : w.heap.size ≤ gb749)); have GE749 := Aside0.mk ((by rw [hg]; exact (below_size (qb0_)) : w.heap.size ≤ gb749)); replace HB := Aside0.mk (below_step (qb0_) hb); clear hb hbox hg; have hcz6_0 : w5.cell? ⟨gb749, 0, none⟩ = some (.int .i64 a0_0) := bc_ BK749 0; have hcz6_1 : w5.cell? ⟨gb749, 1, none⟩ = some (.int .i64 a0_1) := bc_ BK749 1; have hcz6_2 : w5.cell? ⟨gb749, 2, none⟩ = some (.int .i64 a0_2) := bc_ BK749 2; have hcz6_3 : w5.cell? ⟨gb749, 3, none⟩ = some (.int .i64 a0_3) := bc_ BK749 3; have hcz6_4 : w5.cell? ⟨gb749, 4, none⟩ = some (.slice A0_4 l0_4.length c0_4) := bc_ BK749 4; have hfz6_0 := blk_frozen BK749.out 0; have hfz6_1 := blk_frozen BK749.out 1; have hfz6_2 := blk_frozen BK749.out 2; have hfz6_3 := blk_frozen BK749.out 3; have hfz6_4 := blk_frozen BK749.out 4))
    go_ret2
    exact ⟨qb4_, qb1_⟩
  · rw [if_neg c4] at H
    have c4b0 : decide (a1 < a0_2) = false := decide_eq_false c4
    clear c4
    by_cases c7 : a1 > a0_2
    · rw [if_pos c7] at H
      have c7b0 : decide (a0_2 < a1) = true := decide_eq_true c7
      clear c7
      by_cases c8 : a2 = 0
      · rw [if_pos c8] at H
        have c8b0 : (a2 == 0) = true := beq_iff_eq.mpr c8
        have c8b1 : (a2 != 0) = false := bne_eq_false_iff_eq.mpr c8
        clear c8
        simp only [Option.some.injEq, Prod.mk.injEq] at H
        obtain ⟨rfl, rfl⟩ := H
        go_enter Try.func78, Try.ntmps78
        go_wp2_with (first | (go_quiet (fail)) | ((with_reducible refine gate_dst (N := 3) rfl ?_); refine box_event ?hg (N := 3) ?hd (cs := #[.int .i64 a0_0, .int .i64 a0_1, .int .i64 a0_2, .int .i64 a0_3, .slice A0_4 l0_4.length c0_4]) (t := 38) ?hr ?_; (case hd => rfl); (case hg => rfl); (case hr => first | (go_simp; done) | (go_simp; rfl)); intro gb749 hg w9 hbox hb; have BK749 := Aside0.mk (hbox); have GW749 := Aside0.mk ((by rw [hg]; exact (below_size (qb0_)) : w.heap.size ≤ gb749)); have GE749 := Aside0.mk ((by rw [hg]; exact (below_size (qb0_)) : w.heap.size ≤ gb749)); replace HB := Aside0.mk (below_step (qb0_) hb); clear hb hbox hg; have hcz10_0 : w9.cell? ⟨gb749, 0, none⟩ = some (.int .i64 a0_0) := bc_ BK749 0; have hcz10_1 : w9.cell? ⟨gb749, 1, none⟩ = some (.int .i64 a0_1) := bc_ BK749 1; have hcz10_2 : w9.cell? ⟨gb749, 2, none⟩ = some (.int .i64 a0_2) := bc_ BK749 2; have hcz10_3 : w9.cell? ⟨gb749, 3, none⟩ = some (.int .i64 a0_3) := bc_ BK749 3; have hcz10_4 : w9.cell? ⟨gb749, 4, none⟩ = some (.slice A0_4 l0_4.length c0_4) := bc_ BK749 4; have hfz10_0 := blk_frozen BK749.out 0; have hfz10_1 := blk_frozen BK749.out 1; have hfz10_2 := blk_frozen BK749.out 2; have hfz10_3 := blk_frozen BK749.out 3; have hfz10_4 := blk_frozen BK749.out 4))
        go_ret2
        exact ⟨qb4_, qb1_⟩
      · rw [if_neg c8] at H
        have c8b0 : (a2 == 0) = false := beq_eq_false_iff_ne.mpr c8
        have c8b1 : (a2 != 0) = true := bne_iff_ne.mpr c8
        simp only [Option.some.injEq, Prod.mk.injEq] at H
        obtain ⟨rfl, rfl⟩ := H
        go_enter Try.func78, Try.ntmps78
        go_wp2_with (first | (go_quiet (fail)) | ((with_reducible refine gate_dst (N := 3) rfl ?_); refine box_event ?hg (N := 3) ?hd (cs := #[.int .i64 a0_0, .int .i64 a0_1, .int .i64 a0_2, .int .i64 a0_3, .slice A0_4 l0_4.length c0_4]) (t := 38) ?hr ?_; (case hd => rfl); (case hg => rfl); (case hr => first | (go_simp; done) | (go_simp; rfl)); intro gb749 hg w11 hbox hb; have BK749 := Aside0.mk (hbox); have GW749 := Aside0.mk ((by rw [hg]; exact (below_size (qb0_)) : w.heap.size ≤ gb749)); have GE749 := Aside0.mk ((by rw [hg]; exact (below_size (qb0_)) : w.heap.size ≤ gb749)); replace HB := Aside0.mk (below_step (qb0_) hb); clear hb hbox hg; have hcz12_0 : w11.cell? ⟨gb749, 0, none⟩ = some (.int .i64 a0_0) := bc_ BK749 0; have hcz12_1 : w11.cell? ⟨gb749, 1, none⟩ = some (.int .i64 a0_1) := bc_ BK749 1; have hcz12_2 : w11.cell? ⟨gb749, 2, none⟩ = some (.int .i64 a0_2) := bc_ BK749 2; have hcz12_3 : w11.cell? ⟨gb749, 3, none⟩ = some (.int .i64 a0_3) := bc_ BK749 3; have hcz12_4 : w11.cell? ⟨gb749, 4, none⟩ = some (.slice A0_4 l0_4.length c0_4) := bc_ BK749 4; have hfz12_0 := blk_frozen BK749.out 0; have hfz12_1 := blk_frozen BK749.out 1; have hfz12_2 := blk_frozen BK749.out 2; have hfz12_3 := blk_frozen BK749.out 3; have hfz12_4 := blk_frozen BK749.out 4))
        go_ret2
        exact ⟨qb4_, qb1_⟩
    · rw [if_neg c7] at H
      have c7b0 : decide (a0_2 < a1) = false := decide_eq_false c7
      clear c7
      by_cases c13 : a2 > a0_3
      · rw [if_pos c13] at H
        have c13b0 : decide (a0_3 < a2) = true := decide_eq_true c13
        clear c13
        by_cases c14 : (wrap64 (a2 - 1)) = a0_3
        · rw [if_pos c14] at H
          have c14b0 : ((wrap64 (a2 - 1)) == a0_3) = true := beq_iff_eq.mpr c14
          have c14b1 : ((wrap64 (a2 - 1)) != a0_3) = false := bne_eq_false_iff_eq.mpr c14
          clear c14
          simp only [Option.some.injEq, Prod.mk.injEq] at H
          obtain ⟨rfl, rfl⟩ := H
          go_enter Try.func78, Try.ntmps78
          go_wp2_with (first | (go_quiet (fail)) | ((with_reducible refine gate_dst (N := 3) rfl ?_); refine box_event ?hg (N := 3) ?hd (cs := #[.int .i64 a0_0, .int .i64 a0_1, .int .i64 a0_2, .int .i64 a0_3, .slice A0_4 l0_4.length c0_4]) (t := 38) ?hr ?_; (case hd => rfl); (case hg => rfl); (case hr => first | (go_simp; done) | (go_simp; rfl)); intro gb749 hg w15 hbox hb; have BK749 := Aside0.mk (hbox); have GW749 := Aside0.mk ((by rw [hg]; exact (below_size (qb0_)) : w.heap.size ≤ gb749)); have GE749 := Aside0.mk ((by rw [hg]; exact (below_size (qb0_)) : w.heap.size ≤ gb749)); replace HB := Aside0.mk (below_step (qb0_) hb); clear hb hbox hg; have hcz16_0 : w15.cell? ⟨gb749, 0, none⟩ = some (.int .i64 a0_0) := bc_ BK749 0; have hcz16_1 : w15.cell? ⟨gb749, 1, none⟩ = some (.int .i64 a0_1) := bc_ BK749 1; have hcz16_2 : w15.cell? ⟨gb749, 2, none⟩ = some (.int .i64 a0_2) := bc_ BK749 2; have hcz16_3 : w15.cell? ⟨gb749, 3, none⟩ = some (.int .i64 a0_3) := bc_ BK749 3; have hcz16_4 : w15.cell? ⟨gb749, 4, none⟩ = some (.slice A0_4 l0_4.length c0_4) := bc_ BK749 4; have hfz16_0 := blk_frozen BK749.out 0; have hfz16_1 := blk_frozen BK749.out 1; have hfz16_2 := blk_frozen BK749.out 2; have hfz16_3 := blk_frozen BK749.out 3; have hfz16_4 := blk_frozen BK749.out 4))
          go_ret2
          exact ⟨qb4_, qb1_⟩
        · rw [if_neg c14] at H
          have c14b0 : ((wrap64 (a2 - 1)) == a0_3) = false := beq_eq_false_iff_ne.mpr c14
          have c14b1 : ((wrap64 (a2 - 1)) != a0_3) = true := bne_iff_ne.mpr c14
          simp only [Option.some.injEq, Prod.mk.injEq] at H
          obtain ⟨rfl, rfl⟩ := H
          go_enter Try.func78, Try.ntmps78
          go_wp2_with (first | (go_quiet (fail)) | ((with_reducible refine gate_dst (N := 3) rfl ?_); refine box_event ?hg (N := 3) ?hd (cs := #[.int .i64 a0_0, .int .i64 a0_1, .int .i64 a0_2, .int .i64 a0_3, .slice A0_4 l0_4.length c0_4]) (t := 38) ?hr ?_; (case hd => rfl); (case hg => rfl); (case hr => first | (go_simp; done) | (go_simp; rfl)); intro gb749 hg w17 hbox hb; have BK749 := Aside0.mk (hbox); have GW749 := Aside0.mk ((by rw [hg]; exact (below_size (qb0_)) : w.heap.size ≤ gb749)); have GE749 := Aside0.mk ((by rw [hg]; exact (below_size (qb0_)) : w.heap.size ≤ gb749)); replace HB := Aside0.mk (below_step (qb0_) hb); clear hb hbox hg; have hcz18_0 : w17.cell? ⟨gb749, 0, none⟩ = some (.int .i64 a0_0) := bc_ BK749 0; have hcz18_1 : w17.cell? ⟨gb749, 1, none⟩ = some (.int .i64 a0_1) := bc_ BK749 1; have hcz18_2 : w17.cell? ⟨gb749, 2, none⟩ = some (.int .i64 a0_2) := bc_ BK749 2; have hcz18_3 : w17.cell? ⟨gb749, 3, none⟩ = some (.int .i64 a0_3) := bc_ BK749 3; have hcz18_4 : w17.cell? ⟨gb749, 4, none⟩ = some (.slice A0_4 l0_4.length c0_4) := bc_ BK749 4; have hfz18_0 := blk_frozen BK749.out 0; have hfz18_1 := blk_frozen BK749.out 1; have hfz18_2 := blk_frozen BK749.out 2; have hfz18_3 := blk_frozen BK749.out 3; have hfz18_4 := blk_frozen BK749.out 4))
          go_ret2
          exact ⟨qb4_, qb1_⟩
      · rw [if_neg c13] at H
        have c13b0 : decide (a0_3 < a2) = false := decide_eq_false c13
        clear c13
        have H' := Aside0.mk H
        clear H
        go_enter Try.func78, Try.ntmps78
        go_wp2_with (first | (go_quiet (fail)) | ((with_reducible refine gate_dst (N := 3) rfl ?_); refine box_event ?hg (N := 3) ?hd (cs := #[.int .i64 a0_0, .int .i64 a0_1, .int .i64 a0_2, .int .i64 a0_3, .slice A0_4 l0_4.length c0_4]) (t := 38) ?hr ?_; (case hd => rfl); (case hg => rfl); (case hr => first | (go_simp; done) | (go_simp; rfl)); intro gb749 hg w19 hbox hb; have BK749 := Aside0.mk (hbox); have GW749 := Aside0.mk ((by rw [hg]; exact (below_size (qb0_)) : w.heap.size ≤ gb749)); have GE749 := Aside0.mk ((by rw [hg]; exact (below_size (qb0_)) : w.heap.size ≤ gb749)); replace HB := Aside0.mk (below_step (qb0_) hb); clear hb hbox hg; have hcz20_0 : w19.cell? ⟨gb749, 0, none⟩ = some (.int .i64 a0_0) := bc_ BK749 0; have hcz20_1 : w19.cell? ⟨gb749, 1, none⟩ = some (.int .i64 a0_1) := bc_ BK749 1; have hcz20_2 : w19.cell? ⟨gb749, 2, none⟩ = some (.int .i64 a0_2) := bc_ BK749 2; have hcz20_3 : w19.cell? ⟨gb749, 3, none⟩ = some (.int .i64 a0_3) := bc_ BK749 3; have hcz20_4 : w19.cell? ⟨gb749, 4, none⟩ = some (.slice A0_4 l0_4.length c0_4) := bc_ BK749 4; have hfz20_0 := blk_frozen BK749.out 0; have hfz20_1 := blk_frozen BK749.out 1; have hfz20_2 := blk_frozen BK749.out 2; have hfz20_3 := blk_frozen BK749.out 3; have hfz20_4 := blk_frozen BK749.out 4))
        go_loopg [8] k (fun kq v8 w' => ∃ (x8_1 : Int), v8 = .int .i64 x8_1 ∧ Aside0 (spec_MakerAsk.l0 kq a2 x8_1 a0_0 a0_1 a0_2 a0_3 l0_4 = some (r1, r2)) ∧ Aside0 (kq ≤ k) ∧ Aside0 (w'.heap[gb749]? = some (.cells #[.int .i64 a0_0, .int .i64 a0_1, .int .i64 a0_2, .int .i64 a0_3, (.slice A0_4 l0_4.length c0_4)] 38 (0, 0))) ∧ Aside0 (Below w.heap.size w w'))
        case atStart => exact ⟨(0), (qb6_), H', ⟨Nat.le_refl _⟩, ⟨bq_ BK749.out⟩, ⟨qb1_⟩⟩
        case round =>
          clear H'
          try clear c1
          try clear p2
          try clear c4
          try clear c4b0
          try clear p6
          try clear c7
          try clear c7b0
          try clear c8
          try clear c8b0
          try clear c8b1
          try clear c13
          try clear c13b0
          try clear c14
          try clear c14b0
          try clear c14b1
          try clear hcz10_0
          try clear hcz10_1
          try clear hcz10_2
          try clear hcz10_3
          try clear hcz10_4
          try clear hcz12_0
          try clear hcz12_1
          try clear hcz12_2
          try clear hcz12_3
          try clear hcz12_4
          try clear hcz16_0
          try clear hcz16_1
          try clear hcz16_2
          try clear hcz16_3
          try clear hcz16_4
          try clear hcz18_0
          try clear hcz18_1
          try clear hcz18_2
          try clear hcz18_3
          try clear hcz18_4
          try clear hcz20_0
          try clear hcz20_1
          try clear hcz20_2
          try clear hcz20_3
          try clear hcz20_4
          try clear hcz6_0
          try clear hcz6_1
          try clear hcz6_2
          try clear hcz6_3
          try clear hcz6_4
          try clear hfz10_0
          try clear hfz10_1
          try clear hfz10_2
          try clear hfz10_3
          try clear hfz10_4
          try clear hfz12_0
          try clear hfz12_1
          try clear hfz12_2
          try clear hfz12_3
          try clear hfz12_4
          try clear hfz16_0
          try clear hfz16_1
          try clear hfz16_2
          try clear hfz16_3
          try clear hfz16_4
          try clear hfz18_0
          try clear hfz18_1
          try clear hfz18_2
          try clear hfz18_3
          try clear hfz18_4
          try clear hfz20_0
          try clear hfz20_1
          try clear hfz20_2
          try clear hfz20_3
          try clear hfz20_4
          try clear hfz6_0
          try clear hfz6_1
          try clear hfz6_2
          try clear hfz6_3
          try clear hfz6_4
          obtain ⟨x8_1, rfl, HA, HK1, BK749, HB⟩ := hrel
          cases gk with
          | zero => exact absurd HA.out (by simp [spec_MakerAsk.l0])
          | succ k1 =>
            have H := HA.out
            clear HA
            simp only [spec_MakerAsk.l0] at H
            by_cases c21 : x8_1 < (l0_4.length : Int)
            · rw [if_pos c21] at H
              have c21b0 : decide (x8_1 < (l0_4.length : Int)) = true := decide_eq_true c21
              clear c21
              by_cases c22 : 0 ≤ x8_1
              · rw [if_pos c22] at H
                have c22b0 : decide (0 ≤ x8_1) = true := decide_eq_true c22
                clear c22
                by_cases c23 : ((rd_Mark l0_4 x8_1).f0) = a2
                · rw [if_pos c23] at H
                  have c23b0 : (((rd_Mark l0_4 x8_1).f0) == a2) = true := beq_iff_eq.mpr c23
                  have c23b1 : (((rd_Mark l0_4 x8_1).f0) != a2) = false := bne_eq_false_iff_eq.mpr c23
                  clear c23
                  simp only [Option.some.injEq, Prod.mk.injEq] at H
                  obtain ⟨rfl, rfl⟩ := H
                  have hcz24_0 : wr.cell? ⟨gb749, 0, none⟩ = some (.int .i64 a0_0) := bc_ BK749 0
                  have hcz24_1 : wr.cell? ⟨gb749, 1, none⟩ = some (.int .i64 a0_1) := bc_ BK749 1
                  have hcz24_2 : wr.cell? ⟨gb749, 2, none⟩ = some (.int .i64 a0_2) := bc_ BK749 2
                  have hcz24_3 : wr.cell? ⟨gb749, 3, none⟩ = some (.int .i64 a0_3) := bc_ BK749 3
                  have hcz24_4 : wr.cell? ⟨gb749, 4, none⟩ = some (.slice A0_4 l0_4.length c0_4) := bc_ BK749 4
                  have hfz24_0 := blk_frozen BK749.out 0
                  have hfz24_1 := blk_frozen BK749.out 1
                  have hfz24_2 := blk_frozen BK749.out 2
                  have hfz24_3 := blk_frozen BK749.out 3
                  have hfz24_4 := blk_frozen BK749.out 4
                  have p750 : 0 ≤ (x8_1 : Int) := of_decide_eq_true dt_
                  have q750 : x8_1 < (l0_4.length : Int) := of_decide_eq_true dt_
                  obtain ⟨ad750, e750, hx750_0, hx750_1⟩ := at_Mark HR0_4.out x8_1 p750 q750
                  cases e750
                  replace hx750_0 := hc_ HB hx750_0
                  replace hx750_1 := hc_ HB hx750_1
                  replace p750 := eq_true p750
                  replace q750 := eq_true q750
                  have p751 : 0 ≤ (x8_1 : Int) := of_decide_eq_true dt_
                  have q751 : x8_1 < (l0_4.length : Int) := of_decide_eq_true dt_
                  obtain ⟨ad751, e751, hx751_0, hx751_1⟩ := at_Mark HR0_4.out x8_1 p751 q751
                  obtain rfl : ad750 = ad751 := (by injection e751)
                  replace hx751_0 := hc_ HB hx751_0
                  replace hx751_1 := hc_ HB hx751_1
                  replace p751 := eq_true p751
                  replace q751 := eq_true q751
                  go_wp2
                  repeat (go_quiet (fail); try go_wp2)
                  go_ret2
                  exact ⟨qb4_, qb1_⟩
                · rw [if_neg c23] at H
                  have c23b0 : (((rd_Mark l0_4 x8_1).f0) == a2) = false := beq_eq_false_iff_ne.mpr c23
                  have c23b1 : (((rd_Mark l0_4 x8_1).f0) != a2) = true := bne_iff_ne.mpr c23
                  have H' := Aside0.mk H
                  clear H
                  have hcz25_0 : wr.cell? ⟨gb749, 0, none⟩ = some (.int .i64 a0_0) := bc_ BK749 0
                  have hcz25_1 : wr.cell? ⟨gb749, 1, none⟩ = some (.int .i64 a0_1) := bc_ BK749 1
                  have hcz25_2 : wr.cell? ⟨gb749, 2, none⟩ = some (.int .i64 a0_2) := bc_ BK749 2
                  have hcz25_3 : wr.cell? ⟨gb749, 3, none⟩ = some (.int .i64 a0_3) := bc_ BK749 3
                  have hcz25_4 : wr.cell? ⟨gb749, 4, none⟩ = some (.slice A0_4 l0_4.length c0_4) := bc_ BK749 4
                  have hfz25_0 := blk_frozen BK749.out 0
                  have hfz25_1 := blk_frozen BK749.out 1
                  have hfz25_2 := blk_frozen BK749.out 2
                  have hfz25_3 := blk_frozen BK749.out 3
                  have hfz25_4 := blk_frozen BK749.out 4
                  have p750 : 0 ≤ (x8_1 : Int) := of_decide_eq_true dt_
                  have q750 : x8_1 < (l0_4.length : Int) := of_decide_eq_true dt_
                  obtain ⟨ad750, e750, hx750_0, hx750_1⟩ := at_Mark HR0_4.out x8_1 p750 q750
                  cases e750
                  replace hx750_0 := hc_ HB hx750_0
                  replace hx750_1 := hc_ HB hx750_1
                  replace p750 := eq_true p750
                  replace q750 := eq_true q750
                  go_wp2
                  repeat (go_quiet (fail); try go_wp2)
                  go_roundg k1
                  case measure => have := HK1.out; omega
                  case rel => exact ⟨(wrap64 (x8_1 + 1)), (qb6_), H', ⟨by have := HK1.out; omega⟩, ⟨bq_ BK749.out⟩, ⟨qb1_⟩⟩
              · rw [if_neg c22] at H
                exact absurd H (by simp)
            · rw [if_neg c21] at H
              have c21b0 : decide (x8_1 < (l0_4.length : Int)) = false := decide_eq_false c21
              clear c21
              simp only [Option.some.injEq, Prod.mk.injEq] at H
              obtain ⟨rfl, rfl⟩ := H
              have hcz26_0 : wr.cell? ⟨gb749, 0, none⟩ = some (.int .i64 a0_0) := bc_ BK749 0
              have hcz26_1 : wr.cell? ⟨gb749, 1, none⟩ = some (.int .i64 a0_1) := bc_ BK749 1
              have hcz26_2 : wr.cell? ⟨gb749, 2, none⟩ = some (.int .i64 a0_2) := bc_ BK749 2
              have hcz26_3 : wr.cell? ⟨gb749, 3, none⟩ = some (.int .i64 a0_3) := bc_ BK749 3
              have hcz26_4 : wr.cell? ⟨gb749, 4, none⟩ = some (.slice A0_4 l0_4.length c0_4) := bc_ BK749 4
              have hfz26_0 := blk_frozen BK749.out 0
              have hfz26_1 := blk_frozen BK749.out 1
              have hfz26_2 := blk_frozen BK749.out 2
              have hfz26_3 := blk_frozen BK749.out 3
              have hfz26_4 := blk_frozen BK749.out 4
              go_wp2
              repeat (go_quiet (fail); try go_wp2)
              go_ret2
              exact ⟨qb4_, qb1_⟩

/-! ### spec_l1Max: function 79 -/
def spec_l1Max.f (a0 : Int) (a1 : Int) : Option (Int) := if a0 > a1 then (some a0) else (some a1)
set_option maxHeartbeats 8000000 in
set_option maxRecDepth 100000 in
theorem spec_l1Max.calls (a0 : Int) (a1 : Int) (r : Int) (w : World) (h : spec_l1Max.f a0 a1 = some r) :
    Calls Try.prog 79 #[.int .i64 a0, .int .i64 a1] w fun e w' => e = .returned (.int .i64 r) ∧ Drawn0 w w' := by
  have H : (if a0 > a1 then (some a0) else (some a1)) = some r := h
  clear h
  by_cases c3 : a0 > a1
  · rw [if_pos c3] at H
    have c3b0 : decide (a1 < a0) = true := decide_eq_true c3
    clear c3
    obtain rfl := Option.some.inj H
    go_enter Try.func79, Try.ntmps79
    go_wp2
    go_ret
    exact ⟨qb6_, by repeat (first | exact Drawn0.refl _ | apply Drawn0.step)⟩
  · rw [if_neg c3] at H
    have c3b0 : decide (a1 < a0) = false := decide_eq_false c3
    clear c3
    obtain rfl := Option.some.inj H
    go_enter Try.func79, Try.ntmps79
    go_wp2
    go_ret
    exact ⟨qb6_, by repeat (first | exact Drawn0.refl _ | apply Drawn0.step)⟩
/-! ### spec_MakerPut: function 40 -/
abbrev spec_MakerPut.m0 : Array Bool := #[t_,t_,t_,t_,t_,t_,t_,t_,t_,t_,f_,f_,f_]
mutual
def spec_MakerPut.j0 : Nat → Int → Int → Int → Int → Int → Int → Int → Int → List (S_Mark) → Int → Int → Int → Int → List (S_Mark) → Option (Int × Int × Int × Int × (List (S_Mark)))
 | 0, _, _, _, _, _, _, _, _, _, _, _, _, _, _ => none
 | k + 1, x1, x2, x3, x4, x753000, x753001, x753002, x753003, x753004, x762000, x762001, x762002, x762003, x762004 => if x2 > x753002 then (spec_MakerPut.j1 k x1 x2 x3 x4 x762000 x762001 x762002 x762003 ([] : List (S_Mark))) else (spec_MakerPut.j1 k x1 x2 x3 x4 x762000 x762001 x762002 x762003 x762004)
def spec_MakerPut.j1 : Nat → Int → Int → Int → Int → Int → Int → Int → Int → List (S_Mark) → Option (Int × Int × Int × Int × (List (S_Mark)))
 | 0, _, _, _, _, _, _, _, _, _ => none
 | k + 1, x1, x2, x3, x4, x762000, x762001, x762002, x762003, x762004 => if x762004.length < 8796093022208 then ((some (x762004 ++ [(⟨x3, x4⟩ : S_Mark)] : List (S_Mark))).bind fun y764 => ((spec_l1Max.f x1 0).bind fun t767 => (if (y764.length : Int) > t767 then ((some (([] : List (S_Mark)) : List (S_Mark))).bind fun y768 => ((spec_l1Max.f x1 0).bind fun t771 => (if 0 ≤ (wrap64 ((y764.length : Int) - t771)) then (if (wrap64 ((y764.length : Int) - t771)) ≤ (y764.length : Int) then ((some (y764.drop ((wrap64 ((y764.length : Int) - t771)) : Int).toNat : List (S_Mark))).bind fun y772 => (if y768.length + y772.length < 8796093022208 then (some (x762000, x762001, x2, x3, (y768 ++ y772))) else (none))) else (none)) else (none)))) else (some (x762000, x762001, x2, x3, y764))))) else (none)
end
def spec_MakerPut.f (k : Nat) (a0_0 : Int) (a0_1 : Int) (a0_2 : Int) (a0_3 : Int) (l0_4 : List (S_Mark)) (a1 : Int) (a2 : Int) (a3 : Int) (a4 : Int) : Option (Int × Int × Int × Int × (List (S_Mark))) := (spec_l4Copy.f a0_0 a0_1 a0_2 a0_3 l0_4).bind fun bt754 => ((spec_MakerAsk.f k a0_0 a0_1 a0_2 a0_3 l0_4 a2 a3).bind fun bt762 => (if bt762.1 = 0 then (spec_MakerPut.j0 k a1 a2 a3 a4 a0_0 a0_1 a0_2 a0_3 l0_4 bt754.1 bt754.2.1 bt754.2.2.1 bt754.2.2.2.1 bt754.2.2.2.2) else (some (bt754.1, bt754.2.1, bt754.2.2.1, bt754.2.2.2.1, bt754.2.2.2.2))))
theorem spec_MakerPut.mono_l : ∀ k, (∀ y0 y1 y2 y3 y4 y5 y6 y7 y8 y9 y10 y11 y12 y13, LeO (spec_MakerPut.j0 k y0 y1 y2 y3 y4 y5 y6 y7 y8 y9 y10 y11 y12 y13) (spec_MakerPut.j0 (k + 1) y0 y1 y2 y3 y4 y5 y6 y7 y8 y9 y10 y11 y12 y13)) ∧ (∀ y0 y1 y2 y3 y4 y5 y6 y7 y8, LeO (spec_MakerPut.j1 k y0 y1 y2 y3 y4 y5 y6 y7 y8) (spec_MakerPut.j1 (k + 1) y0 y1 y2 y3 y4 y5 y6 y7 y8))
 | 0 => ⟨fun _ _ _ _ _ _ _ _ _ _ _ _ _ _ r h => by simp [spec_MakerPut.j0] at h, fun _ _ _ _ _ _ _ _ _ r h => by simp [spec_MakerPut.j1] at h⟩
 | k + 1 => by
  obtain ⟨ih0, ih1⟩ := spec_MakerPut.mono_l k
  refine ⟨?_, ?_⟩
  ·
   intro y0 y1 y2 y3 y4 y5 y6 y7 y8 y9 y10 y11 y12 y13
   unfold spec_MakerPut.j0
   exact qbh1_
  ·
   intro y0 y1 y2 y3 y4 y5 y6 y7 y8
   unfold spec_MakerPut.j1
   exact qbh1_
theorem spec_MakerPut.mono : ∀ a0 a1 a2 a3 a4 a5 a6 a7 a8 k, LeO (spec_MakerPut.f k a0 a1 a2 a3 a4 a5 a6 a7 a8) (spec_MakerPut.f (k + 1) a0 a1 a2 a3 a4 a5 a6 a7 a8) := by
 intro a0 a1 a2 a3 a4 a5 a6 a7 a8 k
 obtain ⟨ih0, ih1⟩ := spec_MakerPut.mono_l k
 unfold spec_MakerPut.f
 exact qbh1_
def spec_MakerPut.T11 : Bool × List (List Nat × List Nat) := (true, [([], []), ([], []), ([1], [1]), ([], []), ([3], [3]), ([4], [4]), ([], []), ([6], [6]), ([5, 7], [5, 7]), ([2, 8], [2, 8]), ([0, 9, 7], [0, 9]), ([0, 1, 2, 3, 4, 5, 6, 7, 8, 9, 10], []), ([11, 10, 10, 0, 1, 2, 3, 4, 5, 6, 7, 8, 9, 10], [10, 11])])
def spec_MakerPut.B11 : List Nat := [0, 0, 2, 0, 8, 24, 0, 64, 248, 510, 1023, 2047, 4095]
theorem spec_MakerPut.tab11 : rtab .any (opsOf Try.f40 11) = spec_MakerPut.T11 := by kernel_rfl
theorem spec_MakerPut.bits11 : waitsOk spec_MakerPut.T11.2 spec_MakerPut.B11 = true := by kernel_rfl
set_option maxHeartbeats 8000000 in
set_option maxRecDepth 100000 in
theorem spec_MakerPut.calls (k : Nat) (a0_0 : Int) (a0_1 : Int) (a0_2 : Int) (a0_3 : Int) (A0_4 : Option Addr) (c0_4 : Nat) (l0_4 : List (S_Mark)) (a1 : Int) (a2 : Int) (a3 : Int) (a4 : Int) (r1 : Int) (r2 : Int) (r3 : Int) (r4 : Int) (r5 : List (S_Mark)) (w : World) (hr0_4 : Kd.C k_Mark w A0_4 l0_4.length l0_4) (hc0_4 : l0_4.length ≤ c0_4) (h : spec_MakerPut.f k a0_0 a0_1 a0_2 a0_3 l0_4 a1 a2 a3 a4 = some (r1, r2, r3, r4, r5)) :
 Calls Try.prog 40 #[.agg #[.int .i64 a0_0, .int .i64 a0_1, .int .i64 a0_2, .int .i64 a0_3, .slice A0_4 l0_4.length c0_4], .int .i64 a1, .int .i64 a2, .int .i64 a3, .int .i64 a4] w fun e w' => ∃ v4_ : Value, e = .returned (.agg #[.int .i64 r1, .int .i64 r2, .int .i64 r3, .int .i64 r4, v4_]) ∧ Kd.R k_Mark 110 w' w.heap.size (fun _ => True) v4_ r5 ∧ Below w.heap.size w w' := by
 have hu38 := Try.underlying38
 have hu110 := Try.underlying110
 have HR0_4 := Aside0.mk hr0_4
 have HC0_4 := Aside0.mk hc0_4
 clear hr0_4 hc0_4
 have HB := Aside0.mk (Below.refl w.heap.size w)
 have H : ((spec_l4Copy.f a0_0 a0_1 a0_2 a0_3 l0_4).bind fun bt754 => ((spec_MakerAsk.f k a0_0 a0_1 a0_2 a0_3 l0_4 a2 a3).bind fun bt762 => (if bt762.1 = 0 then (spec_MakerPut.j0 k a1 a2 a3 a4 a0_0 a0_1 a0_2 a0_3 l0_4 bt754.1 bt754.2.1 bt754.2.2.1 bt754.2.2.2.1 bt754.2.2.2.2) else (some (bt754.1, bt754.2.1, bt754.2.2.1, bt754.2.2.2.1, bt754.2.2.2.2))))) = some (r1, r2, r3, r4, r5) := h
 clear h
 replace H := Option.bind_eq_some_iff.mp H
 obtain ⟨⟨t754, t755, t756, t757, t758⟩, A60, H⟩ := H
 replace H : ((spec_MakerAsk.f k a0_0 a0_1 a0_2 a0_3 l0_4 a2 a3).bind fun bt762 => (if bt762.1 = 0 then (spec_MakerPut.j0 k a1 a2 a3 a4 a0_0 a0_1 a0_2 a0_3 l0_4 t754 t755 t756 t757 t758) else (some (t754, t755, t756, t757, t758)))) = some (r1, r2, r3, r4, r5) := H
 have A6 := Aside0.mk A60
 clear A60
 replace H := Option.bind_eq_some_iff.mp H
 obtain ⟨⟨t762, t763⟩, A70, H⟩ := H
 replace H : (if t762 = 0 then (spec_MakerPut.j0 k a1 a2 a3 a4 a0_0 a0_1 a0_2 a0_3 l0_4 t754 t755 t756 t757 t758) else (some (t754, t755, t756, t757, t758))) = some (r1, r2, r3, r4, r5) := H
 have A7 := Aside0.mk A70
 clear A70
 have HC8 := Aside0.mk H
 clear H
 go_enter Try.func40, Try.ntmps40
 go_upto_if 24 with (first | ((with_reducible refine gate_dst (N := 5) rfl ?_); refine box_event ?hg (N := 5) ?hd (cs := #[.int .i64 a0_0, .int .i64 a0_1, .int .i64 a0_2, .int .i64 a0_3, .slice A0_4 l0_4.length c0_4]) (t := 38) ?hr ?_; (case hd => rfl); (case hg => rfl); (case hr => first | (go_simp; done) | (go_simp; rfl)); intro gb752 hg w9 hbox hb; have BK752 := Aside0.mk (hbox); have GW752 := cz_ HB hg; have GE752 := cz_ HB hg; replace HB := ch_ HB hb; clear hb hbox hg) | ((with_reducible refine gate_dst (N := 10) rfl ?_); refine box_event ?hg (N := 10) ?hd (cs := #[.int .i64 0, .int .i64 0, .int .i64 0, .int .i64 0, .slice none 0 0]) (t := 38) ?hr ?_; (case hd => rfl); (case hg => rfl); (case hr => first | (go_simp; done) | (go_simp; rfl)); intro gb753 hg w10 hbox hb; have BK753 := Aside0.mk (hbox); have GW753 := cz_ HB hg; have GE753 := cz_ HB hg; have NB752_753 := cn_ BK752 hg; have NB753_752 := cm_ BK752 hg; replace BK752 := cb_ BK752 hb; replace HB := ch_ HB hb; clear hb hbox hg; have hnb11 := NB752_753.out; have hnc11 := NB753_752.out; have hcz12_0 : w10.cell? ⟨gb752, 0, none⟩ = some (.int .i64 a0_0) := bc_ BK752 0; have hcz12_1 : w10.cell? ⟨gb752, 1, none⟩ = some (.int .i64 a0_1) := bc_ BK752 1; have hcz12_2 : w10.cell? ⟨gb752, 2, none⟩ = some (.int .i64 a0_2) := bc_ BK752 2; have hcz12_3 : w10.cell? ⟨gb752, 3, none⟩ = some (.int .i64 a0_3) := bc_ BK752 3; have hcz12_4 : w10.cell? ⟨gb752, 4, none⟩ = some (.slice A0_4 l0_4.length c0_4) := bc_ BK752 4; have hfz12_0 := blk_frozen BK752.out 0; have hfz12_1 := blk_frozen BK752.out 1; have hfz12_2 := blk_frozen BK752.out 2; have hfz12_3 := blk_frozen BK752.out 3; have hfz12_4 := blk_frozen BK752.out 4) | ((with_reducible refine gate_callee (f := 60) rfl ?_); refine goesL_ (some 15) rfl rfl Try.func60 (by kernel_rfl) rfl #[.agg #[.int .i64 a0_0, .int .i64 a0_1, .int .i64 a0_2, .int .i64 a0_3, .slice A0_4 l0_4.length c0_4]] rfl sm_ ?_; (with_reducible refine (spec_l4Copy.calls a0_0 a0_1 a0_2 a0_3 _ _ l0_4 t754 t755 t756 t757 t758 _ ?side1 ?side2 A6.out).mono ?_); (case side1 => repeat (first | exact (Kd.C_below HR0_4.out HB.out) | (with_reducible refine Kd.C_alloc ?_ _) | (with_reducible refine Kd.C_drewN ?_ _) | (with_reducible refine Kd.C_drew ?_))); (case side2 => exact HC0_4.out); rintro e w13 ⟨v759, rfl, ho0, hb⟩; refine ⟨_, rfl, ?_⟩; have HO760 := Aside0.mk (Kd.R_lower ho0 (below_size (hb_ HB.out))); replace BK752 := cb_ BK752 hb; replace BK753 := cb_ BK753 hb; replace HB := ch_ HB hb; (try clear hb); (try clear hb2); (try clear hk); (try clear hi); (try clear ho0)) | ((with_reducible refine gate_dst (N := 11) rfl ?_); refine box_event ?hg (N := 11) ?hd (cs := #[.int .i64 0, .int .i64 0, .int .i64 0, .int .i64 0, .slice none 0 0]) (t := 38) ?hr ?_; (case hd => rfl); (case hg => rfl); (case hr => first | (go_simp; done) | (go_simp; rfl)); intro gb761 hg w14 hbox hb; have BK761 := Aside0.mk (hbox); have GW761 := cz_ HB hg; have GE761 := cz_ HB hg; have NB752_761 := cn_ BK752 hg; have NB761_752 := cm_ BK752 hg; have NB753_761 := cn_ BK753 hg; have NB761_753 := cm_ BK753 hg; replace HO760 := cr_ HO760 hb; replace BK752 := cb_ BK752 hb; replace BK753 := cb_ BK753 hb; replace HB := ch_ HB hb; clear hb hbox hg; have hnb15 := NB761_752.out; have hnc15 := NB752_761.out; have hnb16 := NB761_753.out; have hnc16 := NB753_761.out; have hcz17_0 : w14.cell? ⟨gb761, 0, none⟩ = some (.int .i64 0) := bc_ BK761 0; have hcz17_1 : w14.cell? ⟨gb761, 1, none⟩ = some (.int .i64 0) := bc_ BK761 1; have hcz17_2 : w14.cell? ⟨gb761, 2, none⟩ = some (.int .i64 0) := bc_ BK761 2; have hcz17_3 : w14.cell? ⟨gb761, 3, none⟩ = some (.int .i64 0) := bc_ BK761 3; have hcz17_4 : w14.cell? ⟨gb761, 4, none⟩ = some (.slice none 0 0) := bc_ BK761 4; have hfz17_0 := blk_frozen BK761.out 0; have hfz17_1 := blk_frozen BK761.out 1; have hfz17_2 := blk_frozen BK761.out 2; have hfz17_3 := blk_frozen BK761.out 3; have hfz17_4 := blk_frozen BK761.out 4; obtain ⟨Ao18, co18, eo18⟩ := Kd.R_slice HO760.out; subst eo18; have hcz19_0 : w14.cell? ⟨gb752, 0, none⟩ = some (.int .i64 a0_0) := bc_ BK752 0; have hcz19_1 : w14.cell? ⟨gb752, 1, none⟩ = some (.int .i64 a0_1) := bc_ BK752 1; have hcz19_2 : w14.cell? ⟨gb752, 2, none⟩ = some (.int .i64 a0_2) := bc_ BK752 2; have hcz19_3 : w14.cell? ⟨gb752, 3, none⟩ = some (.int .i64 a0_3) := bc_ BK752 3; have hcz19_4 : w14.cell? ⟨gb752, 4, none⟩ = some (.slice A0_4 l0_4.length c0_4) := bc_ BK752 4; have hfz19_0 := blk_frozen BK752.out 0; have hfz19_1 := blk_frozen BK752.out 1; have hfz19_2 := blk_frozen BK752.out 2; have hfz19_3 := blk_frozen BK752.out 3; have hfz19_4 := blk_frozen BK752.out 4) | ((with_reducible refine gate_callee (f := 78) rfl ?_); refine goesL_ (some 20) rfl rfl Try.func78 (by kernel_rfl) rfl #[.agg #[.int .i64 a0_0, .int .i64 a0_1, .int .i64 a0_2, .int .i64 a0_3, .slice A0_4 l0_4.length c0_4], .int .i64 a2, .int .i64 a3] rfl sm_ ?_; (with_reducible refine (spec_MakerAsk.calls k a0_0 a0_1 a0_2 a0_3 _ _ l0_4 a2 a3 t762 t763 _ ?side1 ?side2 A7.out).mono ?_); (case side1 => exact Kd.C_below HR0_4.out (hb_ HB.out)); (case side2 => exact HC0_4.out); rintro e w20 ⟨rfl, hb⟩; refine ⟨_, rfl, ?_⟩; replace HO760 := Aside0.mk (Kd.R_below (rk_ HO760.out BK761.out) hb); replace BK752 := Aside0.mk (blk_below (g := gb752) (o := .cells #[.int .i64 a0_0, .int .i64 a0_1, .int .i64 a0_2, .int .i64 a0_3, .slice A0_4 l0_4.length c0_4] 38 (0, 0)) (bf_ NB752_761.out BK752.out) hb); replace BK753 := Aside0.mk (blk_below (g := gb753) (o := .cells #[.int .i64 0, .int .i64 0, .int .i64 0, .int .i64 0, .slice none 0 0] 38 (0, 0)) (bf_ NB753_761.out BK753.out) hb); replace BK761 := Aside0.mk (blk_below (g := gb761) (o := .cells #[.int .i64 t754, .int .i64 t755, .int .i64 t756, .int .i64 t757, .slice Ao18 t758.length co18] 38 (0, 0)) (bp_ BK761.out) hb); replace HB := ch_ HB hb; (try clear hb); (try clear hb2); (try clear hk); (try clear hi)))
 (try simp only [Act.put, List.setIfInBounds_toArray, List.set_cons_zero, List.set_cons_succ])
 go_cut [] (fun wc => ∃ (kq : Nat) (x754000_7 : Int) (x754001_7 : Int) (x754002_7 : Int) (x754003_7 : Int), Aside0 (spec_MakerPut.j0 kq a1 a2 a3 a4 a0_0 a0_1 a0_2 a0_3 l0_4 t754 t755 t756 t757 t758 = some (r1, r2, r3, r4, r5)) ∧ Aside0 (kq ≤ k) ∧ Aside0 (Kd.R k_Mark 110 wc w.heap.size (fun _ => True) (.slice Ao18 t758.length co18) t758) ∧ Aside0 (wc.heap[gb752]? = some (.cells #[.int .i64 a0_0, .int .i64 a0_1, .int .i64 a0_2, .int .i64 a0_3, (.slice A0_4 l0_4.length c0_4)] 38 (0, 0))) ∧ Aside0 (wc.heap[gb753]? = some (.cells #[.int .i64 x754000_7, .int .i64 x754001_7, .int .i64 x754002_7, .int .i64 x754003_7, (.slice none 0 0)] 38 (0, 0))) ∧ Aside0 (wc.heap[gb761]? = some (.cells #[.int .i64 t754, .int .i64 t755, .int .i64 t756, .int .i64 t757, (.slice Ao18 t758.length co18)] 38 (0, 0))) ∧ Aside0 (Below w.heap.size w wc))
 case first =>
  have H := HC8.out
  clear HC8
  by_cases c21 : t762 = 0
  ·
   rw [if_pos c21] at H
   have c21b0 : (t762 == 0) = true := beq_iff_eq.mpr c21
   have c21b1 : (t762 != 0) = false := bne_eq_false_iff_eq.mpr c21
   clear c21
   (first | rw [c21b0] | (simp only [i64_w, i32_w]; rw [c21b0]) | rw [c21b4] | rw [c21b3] | skip)
   have H' := Aside0.mk H
   clear H
   go_wp2
   go_meet
   case rel => exact ⟨_, (0), (0), (0), (0), H', ⟨by first | omega | exact Nat.le_refl _⟩, ⟨rq_ HO760.out⟩, ⟨bq_ BK752.out⟩, ⟨bq_ BK753.out⟩, ⟨bq_ BK761.out⟩, ⟨hb_ HB.out⟩⟩
  ·
   rw [if_neg c21] at H
   have c21b0 : (t762 == 0) = false := beq_eq_false_iff_ne.mpr c21
   have c21b1 : (t762 != 0) = true := bne_iff_ne.mpr c21
   (first | rw [c21b0] | (simp only [i64_w, i32_w]; rw [c21b0]) | rw [c21b4] | rw [c21b3] | skip)
   simp only [Option.some.injEq, Prod.mk.injEq] at H
   obtain ⟨rfl, rfl, rfl, rfl, rfl⟩ := H
   have hnb22 := NB761_752.out
   have hnc22 := NB752_761.out
   have hnb23 := NB761_753.out
   have hnc23 := NB753_761.out
   have hcz24_0 : w20.cell? ⟨gb761, 0, none⟩ = some (.int .i64 t754) := bc_ BK761 0
   have hcz24_1 : w20.cell? ⟨gb761, 1, none⟩ = some (.int .i64 t755) := bc_ BK761 1
   have hcz24_2 : w20.cell? ⟨gb761, 2, none⟩ = some (.int .i64 t756) := bc_ BK761 2
   have hcz24_3 : w20.cell? ⟨gb761, 3, none⟩ = some (.int .i64 t757) := bc_ BK761 3
   have hcz24_4 : w20.cell? ⟨gb761, 4, none⟩ = some (.slice Ao18 t758.length co18) := bc_ BK761 4
   have hfz24_0 := blk_frozen BK761.out 0
   have hfz24_1 := blk_frozen BK761.out 1
   have hfz24_2 := blk_frozen BK761.out 2
   have hfz24_3 := blk_frozen BK761.out 3
   have hfz24_4 := blk_frozen BK761.out 4
   have hnb25 := NB753_752.out
   have hnc25 := NB752_753.out
   have hcz26_0 : w20.cell? ⟨gb753, 0, none⟩ = some (.int .i64 0) := bc_ BK753 0
   have hcz26_1 : w20.cell? ⟨gb753, 1, none⟩ = some (.int .i64 0) := bc_ BK753 1
   have hcz26_2 : w20.cell? ⟨gb753, 2, none⟩ = some (.int .i64 0) := bc_ BK753 2
   have hcz26_3 : w20.cell? ⟨gb753, 3, none⟩ = some (.int .i64 0) := bc_ BK753 3
   have hcz26_4 : w20.cell? ⟨gb753, 4, none⟩ = some (.slice none 0 0) := bc_ BK753 4
   have hfz26_0 := blk_frozen BK753.out 0
   have hfz26_1 := blk_frozen BK753.out 1
   have hfz26_2 := blk_frozen BK753.out 2
   have hfz26_3 := blk_frozen BK753.out 3
   have hfz26_4 := blk_frozen BK753.out 4
   go_wp2
   refine bodyPost_ret (results_cell_row rfl _ _ gb753 38 #[.int .i64 t754, .int .i64 t755, .int .i64 t756, .int .i64 t757, .slice Ao18 t758.length co18] (0, 0) _ rfl (bp_ BK753.out) Try.underlying38 rfl (by kernel_rfl)) rfl ?_
   exact ⟨_, er_, by (with_reducible repeat (first | apply Kd.R_alloc | apply Kd.R_drewN | apply Kd.R_drew)); exact Kd.R_mono (Kd.R_far (p := ⟨gb753, 4, none⟩) (Kd.R_far (p := ⟨gb753, 3, none⟩) (Kd.R_far (p := ⟨gb753, 2, none⟩) (Kd.R_far (p := ⟨gb753, 1, none⟩) (Kd.R_far (p := ⟨gb753, 0, none⟩) (Kd.R_types HO760.out BK753.out (by decide)) (fun _ hk => hk.2) (.int .i64 t754)) (fun _ hk => hk.2) (.int .i64 t755)) (fun _ hk => hk.2) (.int .i64 t756)) (fun _ hk => hk.2) (.int .i64 t757)) (fun _ hk => hk.2) (.slice Ao18 t758.length co18)) (fun _ hk => trivial), hb_ HB.out⟩
 case rest =>
  clear HC8
  (try clear hcz12_0); (try clear hcz12_1); (try clear hcz12_2); (try clear hcz12_3); (try clear hcz12_4); (try clear hcz17_0); (try clear hcz17_1); (try clear hcz17_2); (try clear hcz17_3); (try clear hcz17_4); (try clear hcz19_0); (try clear hcz19_1); (try clear hcz19_2); (try clear hcz19_3); (try clear hcz19_4); (try clear hfz12_0); (try clear hfz12_1); (try clear hfz12_2); (try clear hfz12_3); (try clear hfz12_4); (try clear hfz17_0); (try clear hfz17_1); (try clear hfz17_2); (try clear hfz17_3); (try clear hfz17_4); (try clear hfz19_0); (try clear hfz19_1); (try clear hfz19_2); (try clear hfz19_3); (try clear hfz19_4)
  obtain ⟨kq, x754000_7, x754001_7, x754002_7, x754003_7, HA, HJ7, HO_762004, BK752, BK753, BK761, HB⟩ := hcut
  cases kq with
  | zero => exact absurd HA.out (by simp [spec_MakerPut.j0])
  | succ kj7 =>
   have H := HA.out
   clear HA
   simp only [spec_MakerPut.j0] at H
   have HC27 := Aside0.mk H
   clear H
   have hnb28 := NB752_753.out
   have hnc28 := NB753_752.out
   have hnb29 := NB752_761.out
   have hnc29 := NB761_752.out
   have hcz30_0 : wc.cell? ⟨gb752, 0, none⟩ = some (.int .i64 a0_0) := bc_ BK752 0
   have hcz30_1 : wc.cell? ⟨gb752, 1, none⟩ = some (.int .i64 a0_1) := bc_ BK752 1
   have hcz30_2 : wc.cell? ⟨gb752, 2, none⟩ = some (.int .i64 a0_2) := bc_ BK752 2
   have hcz30_3 : wc.cell? ⟨gb752, 3, none⟩ = some (.int .i64 a0_3) := bc_ BK752 3
   have hcz30_4 : wc.cell? ⟨gb752, 4, none⟩ = some (.slice A0_4 l0_4.length c0_4) := bc_ BK752 4
   have hfz30_0 := blk_frozen BK752.out 0
   have hfz30_1 := blk_frozen BK752.out 1
   have hfz30_2 := blk_frozen BK752.out 2
   have hfz30_3 := blk_frozen BK752.out 3
   have hfz30_4 := blk_frozen BK752.out 4
   go_upto_if 29 with (fail)
   go_cut [] (fun wc => ∃ (kq : Nat) (x762004_26 : List (S_Mark)) (u762004 : Value), Aside0 (spec_MakerPut.j1 kq a1 a2 a3 a4 t754 t755 t756 t757 x762004_26 = some (r1, r2, r3, r4, r5)) ∧ Aside0 (kq ≤ kj7) ∧ Aside0 (Kd.R k_Mark 110 wc w.heap.size (fun _ => True) u762004 x762004_26) ∧ Aside0 (wc.heap[gb752]? = some (.cells #[.int .i64 a0_0, .int .i64 a0_1, .int .i64 a0_2, .int .i64 a0_3, (.slice A0_4 l0_4.length c0_4)] 38 (0, 0))) ∧ Aside0 (wc.heap[gb753]? = some (.cells #[.int .i64 x754000_7, .int .i64 x754001_7, .int .i64 x754002_7, .int .i64 x754003_7, (.slice none 0 0)] 38 (0, 0))) ∧ Aside0 (wc.heap[gb761]? = some (.cells #[.int .i64 t754, .int .i64 t755, .int .i64 t756, .int .i64 t757, u762004] 38 (0, 0))) ∧ Aside0 (Below w.heap.size w wc))
   case first =>
    have H := HC27.out
    clear HC27
    by_cases c31 : a2 > a0_2
    ·
     rw [if_pos c31] at H
     have c31b0 : decide (a0_2 < a2) = true := decide_eq_true c31
     clear c31
     (first | rw [c31b0] | (simp only [i64_w, i32_w]; rw [c31b0]) | rw [c31b4] | rw [c31b3] | skip)
     have H' := Aside0.mk H
     clear H
     have hnb32 := NB761_752.out
     have hnc32 := NB752_761.out
     have hnb33 := NB761_753.out
     have hnc33 := NB753_761.out
     have hcz34_0 : wc.cell? ⟨gb761, 0, none⟩ = some (.int .i64 t754) := bc_ BK761 0
     have hcz34_1 : wc.cell? ⟨gb761, 1, none⟩ = some (.int .i64 t755) := bc_ BK761 1
     have hcz34_2 : wc.cell? ⟨gb761, 2, none⟩ = some (.int .i64 t756) := bc_ BK761 2
     have hcz34_3 : wc.cell? ⟨gb761, 3, none⟩ = some (.int .i64 t757) := bc_ BK761 3
     have hcz34_4 : wc.cell? ⟨gb761, 4, none⟩ = some (.slice Ao18 t758.length co18) := bc_ BK761 4
     have hfz34_0 := blk_frozen BK761.out 0
     have hfz34_1 := blk_frozen BK761.out 1
     have hfz34_2 := blk_frozen BK761.out 2
     have hfz34_3 := blk_frozen BK761.out 3
     have hfz34_4 := blk_frozen BK761.out 4
     go_wp2
     go_meet
     case rel => exact ⟨_, (([] : List (S_Mark))), (.slice none 0 0), H', ⟨by have := HJ7.out; first | omega | exact Nat.le_refl _⟩, ⟨qb8_⟩, ⟨bf_ NB752_761.out BK752.out⟩, ⟨bf_ NB753_761.out BK753.out⟩, ⟨bp_ BK761.out⟩, ⟨hb_ HB.out⟩⟩
    ·
     rw [if_neg c31] at H
     have c31b0 : decide (a0_2 < a2) = false := decide_eq_false c31
     clear c31
     (first | rw [c31b0] | (simp only [i64_w, i32_w]; rw [c31b0]) | rw [c31b4] | rw [c31b3] | skip)
     have H' := Aside0.mk H
     clear H
     go_wp2
     go_meet
     case rel => exact ⟨_, (t758), (.slice Ao18 t758.length co18), H', ⟨by have := HJ7.out; first | omega | exact Nat.le_refl _⟩, ⟨rq_ HO_762004.out⟩, ⟨bq_ BK752.out⟩, ⟨bq_ BK753.out⟩, ⟨bq_ BK761.out⟩, ⟨hb_ HB.out⟩⟩
   case rest =>
    clear HC27
    (try clear hcz30_0); (try clear hcz30_1); (try clear hcz30_2); (try clear hcz30_3); (try clear hcz30_4); (try clear hfz30_0); (try clear hfz30_1); (try clear hfz30_2); (try clear hfz30_3); (try clear hfz30_4)
    obtain ⟨kq, x762004_26, u762004, HA, HJ26, HO_762004, BK752, BK753, BK761, HB⟩ := hcut
    cases kq with
    | zero => exact absurd HA.out (by simp [spec_MakerPut.j1])
    | succ kj26 =>
     have H := HA.out
     clear HA
     simp only [spec_MakerPut.j1] at H
     by_cases c35 : x762004_26.length < 8796093022208
     ·
      rw [if_pos c35] at H
      have LMc35 := Aside0.mk c35
      clear c35
      obtain ⟨y764, hy764⟩ : ∃ y_ : List (S_Mark), y_ = (x762004_26 ++ [(⟨a3, a4⟩ : S_Mark)]) := ⟨_, rfl⟩
      replace H : ((spec_l1Max.f a1 0).bind fun t767 => (if (y764.length : Int) > t767 then ((some (([] : List (S_Mark)) : List (S_Mark))).bind fun y768 => ((spec_l1Max.f a1 0).bind fun t771 => (if 0 ≤ (wrap64 ((y764.length : Int) - t771)) then (if (wrap64 ((y764.length : Int) - t771)) ≤ (y764.length : Int) then ((some (y764.drop ((wrap64 ((y764.length : Int) - t771)) : Int).toNat : List (S_Mark))).bind fun y772 => (if y768.length + y772.length < 8796093022208 then (some (t754, t755, a2, a3, (y768 ++ y772))) else (none))) else (none)) else (none)))) else (some (t754, t755, a2, a3, y764)))) = some (r1, r2, r3, r4, r5) := by first | (rw [hy764]; with_reducible exact H) | (have H2_ := (Option.bind_some _ _).symm.trans H; rw [hy764]; with_reducible exact H2_) | (have H2_ := (Option.bind_some _ _).symm.trans H; with_reducible exact H2_) | with_reducible exact H | (rw [hy764]; exact H) | exact H
      have Ny764 := Aside0.mk hy764
      clear hy764
      replace H := Option.bind_eq_some_iff.mp H
      obtain ⟨t767, A360, H⟩ := H
      replace H : (if (y764.length : Int) > t767 then ((some (([] : List (S_Mark)) : List (S_Mark))).bind fun y768 => ((spec_l1Max.f a1 0).bind fun t771 => (if 0 ≤ (wrap64 ((y764.length : Int) - t771)) then (if (wrap64 ((y764.length : Int) - t771)) ≤ (y764.length : Int) then ((some (y764.drop ((wrap64 ((y764.length : Int) - t771)) : Int).toNat : List (S_Mark))).bind fun y772 => (if y768.length + y772.length < 8796093022208 then (some (t754, t755, a2, a3, (y768 ++ y772))) else (none))) else (none)) else (none)))) else (some (t754, t755, a2, a3, y764))) = some (r1, r2, r3, r4, r5) := H
      have A36 := Aside0.mk A360
      clear A360
      by_cases c37 : (y764.length : Int) > t767
      ·
       rw [if_pos c37] at H
       have c37b0 : decide (t767 < (y764.length : Int)) = true := decide_eq_true c37
       clear c37
       obtain ⟨y768, hy768⟩ : ∃ y_ : List (S_Mark), y_ = (([] : List (S_Mark))) := ⟨_, rfl⟩
       replace H : ((spec_l1Max.f a1 0).bind fun t771 => (if 0 ≤ (wrap64 ((y764.length : Int) - t771)) then (if (wrap64 ((y764.length : Int) - t771)) ≤ (y764.length : Int) then ((some (y764.drop ((wrap64 ((y764.length : Int) - t771)) : Int).toNat : List (S_Mark))).bind fun y772 => (if y768.length + y772.length < 8796093022208 then (some (t754, t755, a2, a3, (y768 ++ y772))) else (none))) else (none)) else (none))) = some (r1, r2, r3, r4, r5) := by first | (rw [hy768]; with_reducible exact H) | (have H2_ := (Option.bind_some _ _).symm.trans H; rw [hy768]; with_reducible exact H2_) | (have H2_ := (Option.bind_some _ _).symm.trans H; with_reducible exact H2_) | with_reducible exact H | (rw [hy768]; exact H) | exact H
       have Ny768 := Aside0.mk hy768
       clear hy768
       replace H := Option.bind_eq_some_iff.mp H
       obtain ⟨t771, A380, H⟩ := H
       replace H : (if 0 ≤ (wrap64 ((y764.length : Int) - t771)) then (if (wrap64 ((y764.length : Int) - t771)) ≤ (y764.length : Int) then ((some (y764.drop ((wrap64 ((y764.length : Int) - t771)) : Int).toNat : List (S_Mark))).bind fun y772 => (if y768.length + y772.length < 8796093022208 then (some (t754, t755, a2, a3, (y768 ++ y772))) else (none))) else (none)) else (none)) = some (r1, r2, r3, r4, r5) := H
       have A38 := Aside0.mk A380
       clear A380
       obtain ⟨ji39, hji39⟩ : ∃ j_ : Int, (wrap64 ((y764.length : Int) - t771)) = j_ := ⟨_, rfl⟩
       replace H : (if 0 ≤ (ji39) then (if (ji39) ≤ (y764.length : Int) then ((some (y764.drop ((ji39) : Int).toNat : List (S_Mark))).bind fun y772 => (if y768.length + y772.length < 8796093022208 then (some (t754, t755, a2, a3, (y768 ++ y772))) else (none))) else (none)) else (none)) = some (r1, r2, r3, r4, r5) := by first | (rw [hji39] at H; exact H) | (simp only [hji39] at H ⊢; exact H)
       (try rw [hji39] at A36)
       (try rw [hji39] at A38)
       have hji39w : (IntKind.i64.wrap ((y764.length : Int) - t771)) = ji39 := (i64_w _).trans hji39
       by_cases c40 : 0 ≤ (ji39)
       ·
        rw [if_pos c40] at H
        have c40b0 := eq_true c40
        have c40b1 : decide (0 ≤ (ji39)) = true := decide_eq_true c40
        clear c40
        by_cases c41 : (ji39) ≤ (y764.length : Int)
        ·
         rw [if_pos c41] at H
         have c41b0 := eq_true c41
         have c41b1 : decide ((ji39) ≤ (y764.length : Int)) = true := decide_eq_true c41
         clear c41
         obtain ⟨y772, hy772⟩ : ∃ y_ : List (S_Mark), y_ = (y764.drop ((ji39) : Int).toNat) := ⟨_, rfl⟩
         replace H : (if y768.length + y772.length < 8796093022208 then (some (t754, t755, a2, a3, (y768 ++ y772))) else (none)) = some (r1, r2, r3, r4, r5) := by first | (rw [hy772]; with_reducible exact H) | (have H2_ := (Option.bind_some _ _).symm.trans H; rw [hy772]; with_reducible exact H2_) | (have H2_ := (Option.bind_some _ _).symm.trans H; with_reducible exact H2_) | with_reducible exact H | (rw [hy772]; exact H) | exact H
         have Ny772 := Aside0.mk hy772
         clear hy772
         by_cases c42 : y768.length + y772.length < 8796093022208
         ·
          rw [if_pos c42] at H
          have LMc42 := Aside0.mk c42
          clear c42
          obtain ⟨y776, hy776⟩ : ∃ y_ : List (S_Mark), y_ = (y768 ++ y772) := ⟨_, rfl⟩
          replace H : (some (t754, t755, a2, a3, y776)) = some (r1, r2, r3, r4, r5) := by first | (rw [hy776]; with_reducible exact H) | (have H2_ := (Option.bind_some _ _).symm.trans H; rw [hy776]; with_reducible exact H2_) | (have H2_ := (Option.bind_some _ _).symm.trans H; with_reducible exact H2_) | with_reducible exact H | (rw [hy776]; exact H) | exact H
          have Ny776 := Aside0.mk hy776
          clear hy776
          simp only [Option.some.injEq, Prod.mk.injEq] at H
          obtain ⟨rfl, rfl, rfl, rfl, rfl⟩ := H
          have hnb43 := NB761_752.out
          have hnc43 := NB752_761.out
          have hnb44 := NB761_753.out
          have hnc44 := NB753_761.out
          have hcz45_0 : wc.cell? ⟨gb761, 0, none⟩ = some (.int .i64 t754) := bc_ BK761 0
          have hcz45_1 : wc.cell? ⟨gb761, 1, none⟩ = some (.int .i64 t755) := bc_ BK761 1
          have hcz45_2 : wc.cell? ⟨gb761, 2, none⟩ = some (.int .i64 t756) := bc_ BK761 2
          have hcz45_3 : wc.cell? ⟨gb761, 3, none⟩ = some (.int .i64 t757) := bc_ BK761 3
          have hcz45_4 : wc.cell? ⟨gb761, 4, none⟩ = some (u762004) := bc_ BK761 4
          have hfz45_0 := blk_frozen BK761.out 0
          have hfz45_1 := blk_frozen BK761.out 1
          have hfz45_2 := blk_frozen BK761.out 2
          have hfz45_3 := blk_frozen BK761.out 3
          have hfz45_4 := blk_frozen BK761.out 4
          try go_wp2_with (first | ((with_reducible refine gate_builtin (b := .append) (xs := #[.tmp 36, .tmp 40]) rfl ?_); at_builtin; refine Kd.R_append k_Mark (w0 := w) w.heap.size rfl (.tmp 36) (.tmp 40) 36 110 (.agg #[(.int .i64 0), (.int .i64 0)]) 16 rfl Try.underlying36 info110 rfl (by decide) (by omega) u762004 x762004_26 (⟨a3, a4⟩ : S_Mark) [.int .i64 a3, .int .i64 a4] (fun _ => True) (fun _ => False) rfl (by first | (go_simp; done) | (go_simp; rfl)) ?aP (fun _ hk => hk.elim) ?aF ?aO ?aB ?aS ?aL ?_; (case aP => exact k_Mark_mkM _ _ _ (⟨a3, a4⟩ : S_Mark)); (case aB => exact (hb_ HB.out)); (case aF => exact (fun _ _ => trivial)); (case aO => exact (qb5_)); (case aS => exact (below_size (hb_ HB.out))); (case aL => have := LMc35.out; omega); intro v765 w46 ho hb hg hat; rw [← Ny764.out] at ho; have HO766 := Aside0.mk (ho); replace BK752 := Aside0.mk (blk_grown (g := gb752) (o := .cells #[.int .i64 a0_0, .int .i64 a0_1, .int .i64 a0_2, .int .i64 a0_3, .slice A0_4 l0_4.length c0_4] 38 (0, 0)) (bf_ NB752_761.out BK752.out) hg (Kd.R_ne HO_762004.out BK752.out (by decide))); replace BK753 := Aside0.mk (blk_grown (g := gb753) (o := .cells #[.int .i64 x754000_7, .int .i64 x754001_7, .int .i64 x754002_7, .int .i64 x754003_7, .slice none 0 0] 38 (0, 0)) (bf_ NB753_761.out BK753.out) hg (Kd.R_ne HO_762004.out BK753.out (by decide))); replace BK761 := Aside0.mk (blk_grown (g := gb761) (o := .cells #[.int .i64 t754, .int .i64 t755, .int .i64 a2, .int .i64 a3, u762004] 38 (0, 0)) (bp_ BK761.out) hg (Kd.R_ne HO_762004.out BK761.out (by decide))); replace HB := Aside0.mk (hb); clear HO_762004; clear ho hb hg hat; obtain ⟨Ao47, co47, eo47⟩ := Kd.R_slice HO766.out; subst eo47; have hcz48_0 : w46.cell? ⟨gb761, 0, none⟩ = some (.int .i64 t754) := bc_ BK761 0; have hcz48_1 : w46.cell? ⟨gb761, 1, none⟩ = some (.int .i64 t755) := bc_ BK761 1; have hcz48_2 : w46.cell? ⟨gb761, 2, none⟩ = some (.int .i64 a2) := bc_ BK761 2; have hcz48_3 : w46.cell? ⟨gb761, 3, none⟩ = some (.int .i64 a3) := bc_ BK761 3; have hcz48_4 : w46.cell? ⟨gb761, 4, none⟩ = some (u762004) := bc_ BK761 4; have hfz48_0 := blk_frozen BK761.out 0; have hfz48_1 := blk_frozen BK761.out 1; have hfz48_2 := blk_frozen BK761.out 2; have hfz48_3 := blk_frozen BK761.out 3; have hfz48_4 := blk_frozen BK761.out 4))
          obtain ⟨w49, qe_⟩ : ∃ x_, x_ = (w46.setCell ⟨gb761, 4, none⟩ (.slice Ao47 y764.length co47)) := ⟨_, rfl⟩
          rw [← qe_]
          replace HO766 : Aside0 (Kd.R k_Mark 110 w49 w.heap.size (fun _ => True) (.slice Ao47 y764.length co47) y764) := ⟨by rw [qe_]; exact by (with_reducible repeat (first | apply Kd.R_alloc | apply Kd.R_drewN | apply Kd.R_drew)); exact Kd.R_mono (Kd.R_far (p := ⟨gb761, 4, none⟩) (Kd.R_types HO766.out BK761.out (by decide)) (fun _ hk => hk.2) (.slice Ao47 y764.length co47)) (fun _ hk => trivial)⟩
          replace BK752 := fl_ qe_ BK752
          replace BK753 := fl_ qe_ BK753
          replace BK761 : Aside0 (w49.heap[gb761]? = some (.cells #[.int .i64 t754, .int .i64 t755, .int .i64 a2, .int .i64 a3, .slice Ao47 y764.length co47] 38 (0, 0))) := ⟨by rw [qe_]; exact bp_ BK761.out⟩
          replace HB : Aside0 (Below w.heap.size w w49) := ⟨by rw [qe_]; exact hb_ HB.out⟩
          clear qe_
          replace HO766 := Aside0.mk (Kd.R_drew HO766.out)
          replace BK752 := Aside0.mk (blk_drew BK752.out)
          replace BK753 := Aside0.mk (blk_drew BK753.out)
          replace BK761 := Aside0.mk (blk_drew BK761.out)
          replace HB := Aside0.mk (below_drew1 HB.out)
          refine start_ (n := 6) (S := fun w' => w'.cell? ⟨gb761, 0, none⟩ = some (.int .i64 t754) ∧ w'.cell? ⟨gb761, 1, none⟩ = some (.int .i64 t755) ∧ w'.cell? ⟨gb761, 2, none⟩ = some (.int .i64 a2) ∧ w'.cell? ⟨gb761, 3, none⟩ = some (.int .i64 a3) ∧ w'.cell? ⟨gb761, 4, none⟩ = some (.slice Ao47 y764.length co47)) (ds := []) #[false, false, false, false, false, false] (by kernel_rfl) rfl rfl ⟨bc_ BK761 0, bc_ BK761 1, bc_ BK761 2, bc_ BK761 3, bc_ BK761 4⟩ (fun hHeld => ?_)
          generalize w49.drew = w50 at HO766 BK752 BK753 BK761 HB hHeld ⊢
          refine pure_ (i := 0) (N := some 43) (v := ?_) (a' := ?_) #[true, false, false, false, false, false] rfl rfl (by kernel_rfl) (fun _ _ _ h => h) (Or.inl ⟨by rfl, ?_⟩) ?_ ?_; rotate_left; (focus intro w'; go_simp; with_reducible rfl); rotate_left; (focus simp only [Act.put, List.setIfInBounds_toArray, List.set_cons_zero, List.set_cons_succ, i64_w, i32_w]; rfl)
          refine pure_ (i := 3) (N := some 46) (v := ?_) (a' := ?_) #[true, false, false, true, false, false] rfl rfl (by kernel_rfl) (fun _ _ _ h => h) (Or.inl ⟨by rfl, ?_⟩) ?_ ?_; rotate_left; (focus intro w'; go_simp; with_reducible rfl); rotate_left; (focus simp only [Act.put, List.setIfInBounds_toArray, List.set_cons_zero, List.set_cons_succ, i64_w, i32_w]; rfl)
          refine take_ (i := 1) (N := some 44) (v := ?_) (a' := ?_) #[true, true, false, true, false, false] rfl rfl (by kernel_rfl) (fun _ _ _ h => h) (Or.inl ⟨by rfl, ?_⟩) hHeld ?_ ?_
          rotate_left
          ·
           rintro w' ⟨s0, s1, s2, s3, s4⟩
           go_simp
           with_reducible rfl
          rotate_left; (focus simp only [Act.put, List.setIfInBounds_toArray, List.set_cons_zero, List.set_cons_succ, i64_w, i32_w]; rfl)
          refine pure_ (i := 2) (N := some 45) (v := ?_) (a' := ?_) #[true, true, true, true, false, false] rfl rfl (by kernel_rfl) (fun _ _ _ h => h) (Or.inl ⟨by rfl, ?_⟩) ?_ ?_; rotate_left; (focus intro w'; go_simp; with_reducible rfl); rotate_left; (focus simp only [Act.put, List.setIfInBounds_toArray, List.set_cons_zero, List.set_cons_succ, i64_w, i32_w]; rfl)
          refine one_ (i := 4) (N := some 47) #[true, true, true, true, true, false] rfl rfl (by kernel_rfl) (by decide) (fun K hK => ?_)
          refine goes_ Try.func79 (by kernel_rfl) rfl #[.int .i64 a1, .int .i64 0] (by rfl) rfl rfl sm_ ?_
          with_reducible refine (spec_l1Max.calls a1 0 t767 _ A36.out).mono ?_
          rintro e w' ⟨rfl, ⟨nd, rfl⟩⟩
          refine ⟨_, rfl, ?_⟩
          refine hK.out _ _ ⟨bc_ BK761 0, bc_ BK761 1, bc_ BK761 2, bc_ BK761 3, bc_ BK761 4⟩ (fun hHeld => ?_)
          clear hK K
          refine nm_ ?_
          refine pure_ (i := 5) (N := some 48) (v := ?_) (a' := ?_) #[true, true, true, true, true, true] rfl rfl (by kernel_rfl) (fun _ _ _ h => h) (Or.inl ⟨by rfl, ?_⟩) ?_ ?_; rotate_left; (focus intro w'; go_simp; with_reducible rfl); rotate_left; (focus simp only [Act.put, List.setIfInBounds_toArray, List.set_cons_zero, List.set_cons_succ, i64_w, i32_w]; rfl)
          refine done_ (by kernel_rfl) ?_
          try go_wp2
          (try (rw [drewN_self w50]; generalize hq_ : World.drewN w50 _ = w50; have n0_ : Aside0 (Kd.R k_Mark 110 w50 w.heap.size (fun _ => True) (.slice Ao47 y764.length co47) y764) := ⟨by rw [← hq_]; exact (rq_ HO766.out)⟩; have n1_ : Aside0 (w50.heap[gb752]? = some (.cells #[.int .i64 a0_0, .int .i64 a0_1, .int .i64 a0_2, .int .i64 a0_3, .slice A0_4 l0_4.length c0_4] 38 (0, 0))) := ⟨by rw [← hq_]; exact (bq_ BK752.out)⟩; have n2_ : Aside0 (w50.heap[gb753]? = some (.cells #[.int .i64 x754000_7, .int .i64 x754001_7, .int .i64 x754002_7, .int .i64 x754003_7, .slice none 0 0] 38 (0, 0))) := ⟨by rw [← hq_]; exact (bq_ BK753.out)⟩; have n3_ : Aside0 (w50.heap[gb761]? = some (.cells #[.int .i64 t754, .int .i64 t755, .int .i64 a2, .int .i64 a3, .slice Ao47 y764.length co47] 38 (0, 0))) := ⟨by rw [← hq_]; exact (bq_ BK761.out)⟩; have n4_ : Aside0 (Below w.heap.size w w50) := ⟨by rw [← hq_]; exact (hb_ HB.out)⟩; clear HO766 BK752 BK753 BK761 HB hq_; have HO766 := n0_; have BK752 := n1_; have BK753 := n2_; have BK761 := n3_; have HB := n4_; clear n0_ n1_ n2_ n3_ n4_))
          replace HO766 := Aside0.mk (Kd.R_drew HO766.out)
          replace BK752 := Aside0.mk (blk_drew BK752.out)
          replace BK753 := Aside0.mk (blk_drew BK753.out)
          replace BK761 := Aside0.mk (blk_drew BK761.out)
          replace HB := Aside0.mk (below_drew1 HB.out)
          refine start_ (n := 13) (S := fun w' => w'.cell? ⟨gb761, 0, none⟩ = some (.int .i64 t754) ∧ w'.cell? ⟨gb761, 1, none⟩ = some (.int .i64 t755) ∧ w'.cell? ⟨gb761, 2, none⟩ = some (.int .i64 a2) ∧ w'.cell? ⟨gb761, 3, none⟩ = some (.int .i64 a3) ∧ w'.cell? ⟨gb761, 4, none⟩ = some (.slice Ao47 y764.length co47)) (ds := [12]) #[false, false, false, false, false, false, false, false, false, false, false, false, false] (by kernel_rfl) rfl rfl ⟨bc_ BK761 0, bc_ BK761 1, bc_ BK761 2, bc_ BK761 3, bc_ BK761 4⟩ (fun hHeld => ?_); refine with_tabW spec_MakerPut.tab11 spec_MakerPut.bits11 (fun HT_ HW_ => ?_)
          generalize w50.drew = w51 at HO766 BK752 BK753 BK761 HB hHeld ⊢
          refine pI_ 1 50 HT_ #[false, true, false, false, false, false, false, false, false, false, false, false, false] rfl rfl ?_
          refine pI_ 3 52 HT_ #[false, true, false, true, false, false, false, false, false, false, false, false, false] rfl rfl ?_
          refine pI_ 6 55 HT_ #[false, true, false, true, false, false, true, false, false, false, false, false, false] rfl rfl ?_
          refine tk_ 2 51 HT_ HW_ #[false, true, true, true, false, false, true, false, false, false, false, false, false] rfl rfl hHeld ?_
          refine tk_ 4 53 HT_ HW_ #[false, true, true, true, true, false, true, false, false, false, false, false, false] rfl rfl hHeld ?_
          refine pI_ 5 54 HT_ #[false, true, true, true, true, true, true, false, false, false, false, false, false] rfl rfl ?_
          have q55 : ((ji39) : Int) ≤ ((y764.length : Int) : Int) := of_decide_eq_true dt_
          obtain ⟨i055, hi055, _, hsz55, _⟩ := info_parts info110
          have q055 : (0 : Int) ≤ ((ji39) : Int) := of_decide_eq_true dt_
          have hcut55 := cut_from (P := Try.prog) 36 110 .i64 Try.underlying36 hi055 2 hsz55 Ao47 y764.length co47 (ji39) q055 q55
          obtain ⟨A55, hA55⟩ : ∃ A1, A1 = (if co47 = ((ji39) : Int).toNat then Ao47 else (Ao47 : Option Addr).map (·.add (((ji39) : Int).toNat * 2))) := ⟨_, rfl⟩
          obtain ⟨c55, hc55⟩ : ∃ c1, c1 = co47 - ((ji39) : Int).toNat := ⟨_, rfl⟩
          have hy55 : y772.length = y764.length - ((ji39) : Int).toNat := (by rw [Ny772.out, List.length_drop] <;> omega)
          rw [← hy55, ← hA55, ← hc55] at hcut55
          have KA55 := Aside0.mk hA55
          have KC55 := Aside0.mk hc55
          clear hy55 hA55 hc55 hi055 hsz55
          replace q55 := eq_true q55
          refine join_ (σ := Value) 3 spec_MakerPut.m0 (fun s_ => [(49, s_), (56, .int .i64 t771), (57, .int .i64 ji39), (58, .slice A55 y772.length c55)]) (fun s_ w' => (w'.cell? ⟨gb761, 0, none⟩ = some (.int .i64 t754) ∧ w'.cell? ⟨gb761, 1, none⟩ = some (.int .i64 t755) ∧ w'.cell? ⟨gb761, 2, none⟩ = some (.int .i64 a2) ∧ w'.cell? ⟨gb761, 3, none⟩ = some (.int .i64 a3) ∧ w'.cell? ⟨gb761, 4, none⟩ = some (.slice Ao47 y764.length co47)) ∧ (Kd.R k_Mark 110 w' w.heap.size (fun k_ => some k_ ≠ (s_ : Value).ownBlock) (.slice Ao47 y764.length co47) y764) ∧ (Kd.R k_Mark 110 w' w.heap.size (fun k_ => some k_ ≠ (.slice Ao47 y764.length co47 : Value).ownBlock) s_ y768) ∧ (w'.heap[gb752]? = some (.cells #[.int .i64 a0_0, .int .i64 a0_1, .int .i64 a0_2, .int .i64 a0_3, .slice A0_4 l0_4.length c0_4] 38 (0, 0))) ∧ (w'.heap[gb753]? = some (.cells #[.int .i64 x754000_7, .int .i64 x754001_7, .int .i64 x754002_7, .int .i64 x754003_7, .slice none 0 0] 38 (0, 0))) ∧ (w'.heap[gb761]? = some (.cells #[.int .i64 t754, .int .i64 t755, .int .i64 a2, .int .i64 a3, .slice Ao47 y764.length co47] 38 (0, 0))) ∧ (Below w.heap.size w w')) ?_ ?_
          rotate_left
          ·
           intro hCont
           refine two_ (i := 0) (j := 7) (Ni := some 49) (Nj := some 56) #[true, true, true, true, true, true, true, false, false, false, false, false, false] #[false, true, true, true, true, true, true, true, false, false, false, false, false] rfl rfl rfl rfl (two_of HT_.out (by kernel_rfl)) (by decide) (by decide) (fun K hK => ?_) (fun K hK => ?_)
           ·
            skip
            refine Kd.R_lit_step k_Mark _ 110 ?hg (N := 49) ?hd (xs := ([] : List (S_Mark))) (inner := []) (ok := fun _ => True) (okp := fun _ => True) ?hr ?hp (fun _ hk => hk) trivial (Below.refl _ _) (Nat.le_refl _) (by simp) ?_; (case hd => rfl); (case hg => rfl); (case hr => first | (go_simp; done) | (go_simp; rfl)); (case hp => exact (Reps.none _ _))
            intro v769 w52 ho53 hb hg_ hnew_
            clear hg_ hnew_
            (first | rw [← Ny768.out] at ho53 | (simp only [Int.reduceToNat] at ho53; rw [← Ny768.out] at ho53))
            have HO770 := Aside0.mk (Kd.R_lower (Kd.R_new' ho53 (Kd.R_lt (rq_ HO766.out))) (below_size (hb_ HB.out)))
            replace HO766 := Aside0.mk (Kd.R_elder' (rq_ HO766.out) (Kd.R_base ho53) hb)
            replace BK752 := cb_ BK752 hb
            replace BK753 := cb_ BK753 hb
            replace BK761 := cb_ BK761 hb
            replace HB := ch_ HB hb
            clear hb ho53
            refine hK.out _ _ ⟨bc_ BK761 0, bc_ BK761 1, bc_ BK761 2, bc_ BK761 3, bc_ BK761 4⟩ (fun hHeld => ?_)
            clear hK K
            refine nm_ ?_
            refine on_ 7 56 HT_ #[true, true, true, true, true, true, true, true, false, false, false, false, false] rfl rfl (fun K hK => ?_)
            refine goes_ Try.func79 (by kernel_rfl) rfl #[.int .i64 a1, .int .i64 0] (by rfl) rfl rfl sm_ ?_
            with_reducible refine (spec_l1Max.calls a1 0 t771 _ A38.out).mono ?_
            rintro e w' ⟨rfl, ⟨nd, rfl⟩⟩
            refine ⟨_, rfl, ?_⟩
            refine hK.out _ _ ⟨bc_ BK761 0, bc_ BK761 1, bc_ BK761 2, bc_ BK761 3, bc_ BK761 4⟩ (fun hHeld => ?_)
            clear hK K
            refine nm_ ?_
            refine pI_ 8 57 HT_ #[true, true, true, true, true, true, true, true, true, false, false, false, false] rfl rfl ?_
            refine pI_ 9 58 HT_ spec_MakerPut.m0 rfl rfl ?_
            exact norm_ (by simp only [putAll, Act.put, List.setIfInBounds_toArray, List.set_cons_zero, List.set_cons_succ]) (hCont (v769) _ ⟨hHeld, (rm_ HO766.out), (rm_ HO770.out), (bq_ BK752.out), (bq_ BK753.out), (bq_ BK761.out), (hb_ HB.out)⟩)
           ·
            skip
            refine goes_ Try.func79 (by kernel_rfl) rfl #[.int .i64 a1, .int .i64 0] (by rfl) rfl rfl sm_ ?_
            with_reducible refine (spec_l1Max.calls a1 0 t771 _ A38.out).mono ?_
            rintro e w' ⟨rfl, ⟨nd, rfl⟩⟩
            refine ⟨_, rfl, ?_⟩
            refine hK.out _ _ ⟨bc_ BK761 0, bc_ BK761 1, bc_ BK761 2, bc_ BK761 3, bc_ BK761 4⟩ (fun hHeld => ?_)
            clear hK K
            refine nm_ ?_
            refine pI_ 8 57 HT_ #[false, true, true, true, true, true, true, true, true, false, false, false, false] rfl rfl ?_
            refine pI_ 9 58 HT_ #[false, true, true, true, true, true, true, true, true, true, false, false, false] rfl rfl ?_
            refine on_ 0 49 HT_ spec_MakerPut.m0 rfl rfl (fun K hK => ?_)
            refine Kd.R_lit_step k_Mark _ 110 ?hg (N := 49) ?hd (xs := ([] : List (S_Mark))) (inner := []) (ok := fun _ => True) (okp := fun _ => True) ?hr ?hp (fun _ hk => hk) trivial (Below.refl _ _) (Nat.le_refl _) (by simp) ?_; (case hd => rfl); (case hg => rfl); (case hr => first | (go_simp; done) | (go_simp; rfl)); (case hp => exact (Reps.none _ _))
            intro v769 w52 ho53 hb hg_ hnew_
            clear hg_ hnew_
            (first | rw [← Ny768.out] at ho53 | (simp only [Int.reduceToNat] at ho53; rw [← Ny768.out] at ho53))
            have HO770 := Aside0.mk (Kd.R_lower (Kd.R_new' ho53 (Kd.R_lt (rq_ HO766.out))) (below_size (hb_ HB.out)))
            replace HO766 := Aside0.mk (Kd.R_elder' (rq_ HO766.out) (Kd.R_base ho53) hb)
            replace BK752 := cb_ BK752 hb
            replace BK753 := cb_ BK753 hb
            replace BK761 := cb_ BK761 hb
            replace HB := ch_ HB hb
            clear hb ho53
            refine hK.out _ _ ⟨bc_ BK761 0, bc_ BK761 1, bc_ BK761 2, bc_ BK761 3, bc_ BK761 4⟩ (fun hHeld => ?_)
            clear hK K
            refine nm_ ?_
            exact norm_ (by simp only [putAll, Act.put, List.setIfInBounds_toArray, List.set_cons_zero, List.set_cons_succ]) (hCont (v769) _ ⟨hHeld, (rm_ HO766.out), (rm_ HO770.out), (bq_ BK752.out), (bq_ BK753.out), (bq_ BK761.out), (hb_ HB.out)⟩)
          rintro v769 w54 ⟨hS_, h0_, h1_, h2_, h3_, h4_, h5_⟩
          have n0_ : Aside0 (Kd.R k_Mark 110 w54 w.heap.size (fun k_ => some k_ ≠ (v769 : Value).ownBlock) (.slice Ao47 y764.length co47) y764) := ⟨h0_⟩
          have n1_ : Aside0 (Kd.R k_Mark 110 w54 w.heap.size (fun k_ => some k_ ≠ (.slice Ao47 y764.length co47 : Value).ownBlock) v769 y768) := ⟨h1_⟩
          have n2_ : Aside0 (w54.heap[gb752]? = some (.cells #[.int .i64 a0_0, .int .i64 a0_1, .int .i64 a0_2, .int .i64 a0_3, .slice A0_4 l0_4.length c0_4] 38 (0, 0))) := ⟨h2_⟩
          have n3_ : Aside0 (w54.heap[gb753]? = some (.cells #[.int .i64 x754000_7, .int .i64 x754001_7, .int .i64 x754002_7, .int .i64 x754003_7, .slice none 0 0] 38 (0, 0))) := ⟨h3_⟩
          have n4_ : Aside0 (w54.heap[gb761]? = some (.cells #[.int .i64 t754, .int .i64 t755, .int .i64 a2, .int .i64 a3, .slice Ao47 y764.length co47] 38 (0, 0))) := ⟨h4_⟩
          have n5_ : Aside0 (Below w.heap.size w w54) := ⟨h5_⟩
          clear HO766
          clear BK752
          clear BK753
          clear BK761
          clear HB
          clear h0_ h1_ h2_ h3_ h4_ h5_
          have HO766 := n0_
          have HO770 := n1_
          have BK752 := n2_
          have BK753 := n3_
          have BK761 := n4_
          have HB := n5_
          clear n0_ n1_ n2_ n3_ n4_ n5_
          have hHeld : w54.cell? ⟨gb761, 0, none⟩ = some (.int .i64 t754) ∧ w54.cell? ⟨gb761, 1, none⟩ = some (.int .i64 t755) ∧ w54.cell? ⟨gb761, 2, none⟩ = some (.int .i64 a2) ∧ w54.cell? ⟨gb761, 3, none⟩ = some (.int .i64 a3) ∧ w54.cell? ⟨gb761, 4, none⟩ = some (.slice Ao47 y764.length co47) := hS_
          have q55o : ((ji39) : Int) ≤ ((y764.length : Int) : Int) := of_eq_true q55
          have hroom55 : y764.length ≤ co47 := (Kd.R_reads' HO766.out).2.1
          have hC55 : Kd.C k_Mark _ Ao47 y764.length y764 := (Kd.R_reads' HO766.out).2.2
          have hr55 := Kd.C_drop (m := ((ji39) : Int).toNat) (c := co47) hC55 (by omega) hroom55
          have hA55 := KA55.out
          have hc55 := KC55.out
          have hy55 : y772.length = y764.length - ((ji39) : Int).toNat := (by rw [Ny772.out, List.length_drop] <;> omega)
          rw [show (y764).drop ((ji39) : Int).toNat = y772 from Ny772.out.symm] at hr55
          replace hr55 : Kd.C k_Mark _ A55 y772.length y772 := (by rw [hA55]; exact hr55)
          have HR775 := Aside0.mk hr55
          have HC775 := Aside0.mk (show y772.length ≤ c55 from by rw [hy55, hc55]; exact Nat.sub_le_sub_right hroom55 _)
          have KY55 := Aside0.mk hy55
          have KL55 := Aside0.mk (show ((ji39) : Int).toNat ≤ y764.length from by omega)
          clear hr55 hC55 hroom55 hc55 hy55 hA55 q55o
          refine norm_ (a' := ?_) ?_ ?_
          rotate_left; (focus simp only [putAll, Act.put, List.setIfInBounds_toArray, List.set_cons_zero, List.set_cons_succ]; rfl)
          refine on_ 10 59 HT_ #[true, true, true, true, true, true, true, true, true, true, true, false, false] rfl rfl (fun K hK => ?_)
          refine Kd.R_append_rows_step k_Mark (w0 := w) w.heap.size (by rfl) (.tmp 49) (.tmp 58) 36 110 (.agg #[(.int .i64 0), (.int .i64 0)]) 16 rfl Try.underlying36 info110 rfl (by decide) (by omega) v769 y768 y772 _ _ _ (fun k_ => some k_ ≠ (.slice Ao47 y764.length co47 : Value).ownBlock) (fun _ => False) rfl rfl ?aO ?aR (fun _ _ h => h) (fun _ h => h.elim) ?aF ?aB ?aS ?aL ?_
          (case aR => repeat (first | exact (by repeat (first | (with_reducible exact HR775.out) | (with_reducible refine Kd.C_alloc ?_ _) | (with_reducible refine Kd.C_drewN ?_ _) | (with_reducible refine Kd.C_drew ?_) | exact HR775.out)) | (with_reducible refine Kd.C_alloc ?_ _) | (with_reducible refine Kd.C_drewN ?_ _) | (with_reducible refine Kd.C_drew ?_)))
          (case aB => exact (hb_ HB.out))
          (case aF => exact (fun k_ hk => Kd.fresh' (Kd.R_lt (rq_ HO766.out)) k_ hk))
          (case aO => exact (rq_ HO770.out))
          (case aS => exact (below_size (hb_ HB.out)))
          (case aL => have := LMc42.out; omega)
          intro v777 w56 ho hb hg hat
          rw [← Ny776.out] at ho
          have HO778 := Aside0.mk (ho)
          replace BK752 := Aside0.mk (blk_grown (g := gb752) (o := .cells #[.int .i64 a0_0, .int .i64 a0_1, .int .i64 a0_2, .int .i64 a0_3, .slice A0_4 l0_4.length c0_4] 38 (0, 0)) (bq_ BK752.out) hg (Kd.R_ne HO770.out BK752.out (by decide)))
          replace BK753 := Aside0.mk (blk_grown (g := gb753) (o := .cells #[.int .i64 x754000_7, .int .i64 x754001_7, .int .i64 x754002_7, .int .i64 x754003_7, .slice none 0 0] 38 (0, 0)) (bq_ BK753.out) hg (Kd.R_ne HO770.out BK753.out (by decide)))
          replace BK761 := Aside0.mk (blk_grown (g := gb761) (o := .cells #[.int .i64 t754, .int .i64 t755, .int .i64 a2, .int .i64 a3, .slice Ao47 y764.length co47] 38 (0, 0)) (bq_ BK761.out) hg (Kd.R_ne HO770.out BK761.out (by decide)))
          replace HB := Aside0.mk (hb)
          replace HR775 := Aside0.mk ((show Kd.C k_Mark w56 A55 y772.length y772 from by rw [Ny772.out, KA55.out]; exact Kd.C_drop (m := ((ji39) : Int).toNat) (c := co47) ((Kd.R_reads' (Kd.R_after (ok := (fun _ => True)) (qb7_) hg hat)).2.2) KL55.out ((Kd.R_reads' (Kd.R_after (ok := (fun _ => True)) (qb7_) hg hat)).2.1)))
          replace HO766 := Aside0.mk (Kd.R_after (ok := (fun _ => True)) (qb7_) hg hat)
          clear HO770
          clear ho hb hg hat
          obtain ⟨Ao57, co57, eo57⟩ := Kd.R_slice HO778.out
          (first | subst eo57 | (injection eo57 with f1_ f2_ f3_; have f4_ := f1_.symm; have f5_ := f3_.symm; clear f1_ f2_ f3_; subst f4_; subst f5_))
          refine hK.out _ _ ⟨bc_ BK761 0, bc_ BK761 1, bc_ BK761 2, bc_ BK761 3, bc_ BK761 4⟩ (fun hHeld => ?_)
          clear hK K
          refine nm_ ?_
          refine pI_ 11 60 HT_ #[true, true, true, true, true, true, true, true, true, true, true, true, false] rfl rfl ?_
          refine last_ (i := 12) (N := none) #[true, true, true, true, true, true, true, true, true, true, true, true, true] rfl rfl (one_of HT_.out (by kernel_rfl)) (by decide) (fun K hK => ?_)
          have hs58 : w56.cell? ⟨gb761, 4, none⟩ = some (.slice Ao47 y764.length co47) := bc_ BK761 4
          have hfs58 := blk_frozen BK761.out 4
          have hns58_0 := NB752_761.out
          have hns58_1 := NB753_761.out
          have hms58_0 := NB761_752.out
          have hms58_1 := NB761_753.out
          refine skip_ (w1 := ?_) (by rfl) rfl ?_ ?_
          rotate_left; (focus go_simp; rfl)
          refine hK.out _ _ ?_
          clear hK K
          refine done_ (done_of HT_.out (by kernel_rfl)) ?_
          have hcz59_0 : w56.cell? ⟨gb761, 0, none⟩ = some (.int .i64 t754) := bc_ BK761 0
          have hcz59_1 : w56.cell? ⟨gb761, 1, none⟩ = some (.int .i64 t755) := bc_ BK761 1
          have hcz59_2 : w56.cell? ⟨gb761, 2, none⟩ = some (.int .i64 a2) := bc_ BK761 2
          have hcz59_3 : w56.cell? ⟨gb761, 3, none⟩ = some (.int .i64 a3) := bc_ BK761 3
          have hcz59_4 : w56.cell? ⟨gb761, 4, none⟩ = some (.slice Ao47 y764.length co47) := bc_ BK761 4
          have hfz59_0 := blk_frozen BK761.out 0
          have hfz59_1 := blk_frozen BK761.out 1
          have hfz59_2 := blk_frozen BK761.out 2
          have hfz59_3 := blk_frozen BK761.out 3
          have hfz59_4 := blk_frozen BK761.out 4
          have hnb60 := NB753_752.out
          have hnc60 := NB752_753.out
          have hcz61_0 : w56.cell? ⟨gb753, 0, none⟩ = some (.int .i64 x754000_7) := bc_ BK753 0
          have hcz61_1 : w56.cell? ⟨gb753, 1, none⟩ = some (.int .i64 x754001_7) := bc_ BK753 1
          have hcz61_2 : w56.cell? ⟨gb753, 2, none⟩ = some (.int .i64 x754002_7) := bc_ BK753 2
          have hcz61_3 : w56.cell? ⟨gb753, 3, none⟩ = some (.int .i64 x754003_7) := bc_ BK753 3
          have hcz61_4 : w56.cell? ⟨gb753, 4, none⟩ = some (.slice none 0 0) := bc_ BK753 4
          have hfz61_0 := blk_frozen BK753.out 0
          have hfz61_1 := blk_frozen BK753.out 1
          have hfz61_2 := blk_frozen BK753.out 2
          have hfz61_3 := blk_frozen BK753.out 3
          have hfz61_4 := blk_frozen BK753.out 4
          try go_wp2
          refine bodyPost_ret (results_cell_row rfl _ _ gb753 38 #[.int .i64 t754, .int .i64 t755, .int .i64 a2, .int .i64 a3, .slice Ao57 y776.length co57] (0, 0) _ rfl (by_ BK753.out) Try.underlying38 rfl (by kernel_rfl)) rfl ?_
          exact ⟨_, by first | rfl | (simp [errW_none, errW_some] <;> rfl) | (simp only [← hji39]; first | rfl | (simp [errW_none, errW_some] <;> rfl)) | (simp [*, errW_none, errW_some] <;> rfl), by (with_reducible repeat (first | apply Kd.R_alloc | apply Kd.R_drewN | apply Kd.R_drew)); exact Kd.R_mono (Kd.R_far (p := ⟨gb753, 4, none⟩) (Kd.R_far (p := ⟨gb753, 3, none⟩) (Kd.R_far (p := ⟨gb753, 2, none⟩) (Kd.R_far (p := ⟨gb753, 1, none⟩) (Kd.R_far (p := ⟨gb753, 0, none⟩) (Kd.R_far (p := ⟨gb761, 4, none⟩) (Kd.R_types (Kd.R_types HO778.out BK761.out (by decide)) BK753.out (by decide)) (fun _ hk => hk.1.2) (.slice Ao57 y776.length co57)) (fun _ hk => hk.2) (.int .i64 t754)) (fun _ hk => hk.2) (.int .i64 t755)) (fun _ hk => hk.2) (.int .i64 a2)) (fun _ hk => hk.2) (.int .i64 a3)) (fun _ hk => hk.2) (.slice Ao57 y776.length co57)) (fun _ hk => trivial), hb_ HB.out⟩
         ·
          rw [if_neg c42] at H
          exact absurd H (by simp)
        ·
         rw [if_neg c41] at H
         exact absurd H (by simp)
       ·
        rw [if_neg c40] at H
        exact absurd H (by simp)
      ·
       rw [if_neg c37] at H
       have c37b0 : decide (t767 < (y764.length : Int)) = false := decide_eq_false c37
       clear c37
       simp only [Option.some.injEq, Prod.mk.injEq] at H
       obtain ⟨rfl, rfl, rfl, rfl, rfl⟩ := H
       have hnb62 := NB761_752.out
       have hnc62 := NB752_761.out
       have hnb63 := NB761_753.out
       have hnc63 := NB753_761.out
       have hcz64_0 : wc.cell? ⟨gb761, 0, none⟩ = some (.int .i64 t754) := bc_ BK761 0
       have hcz64_1 : wc.cell? ⟨gb761, 1, none⟩ = some (.int .i64 t755) := bc_ BK761 1
       have hcz64_2 : wc.cell? ⟨gb761, 2, none⟩ = some (.int .i64 t756) := bc_ BK761 2
       have hcz64_3 : wc.cell? ⟨gb761, 3, none⟩ = some (.int .i64 t757) := bc_ BK761 3
       have hcz64_4 : wc.cell? ⟨gb761, 4, none⟩ = some (u762004) := bc_ BK761 4
       have hfz64_0 := blk_frozen BK761.out 0
       have hfz64_1 := blk_frozen BK761.out 1
       have hfz64_2 := blk_frozen BK761.out 2
       have hfz64_3 := blk_frozen BK761.out 3
       have hfz64_4 := blk_frozen BK761.out 4
       try go_wp2_with (first | ((with_reducible refine gate_builtin (b := .append) (xs := #[.tmp 36, .tmp 40]) rfl ?_); at_builtin; refine Kd.R_append k_Mark (w0 := w) w.heap.size rfl (.tmp 36) (.tmp 40) 36 110 (.agg #[(.int .i64 0), (.int .i64 0)]) 16 rfl Try.underlying36 info110 rfl (by decide) (by omega) u762004 x762004_26 (⟨a3, a4⟩ : S_Mark) [.int .i64 a3, .int .i64 a4] (fun _ => True) (fun _ => False) rfl (by first | (go_simp; done) | (go_simp; rfl)) ?aP (fun _ hk => hk.elim) ?aF ?aO ?aB ?aS ?aL ?_; (case aP => exact k_Mark_mkM _ _ _ (⟨a3, a4⟩ : S_Mark)); (case aB => exact (hb_ HB.out)); (case aF => exact (fun _ _ => trivial)); (case aO => exact (qb5_)); (case aS => exact (below_size (hb_ HB.out))); (case aL => have := LMc35.out; omega); intro v765 w65 ho hb hg hat; rw [← Ny764.out] at ho; have HO766 := Aside0.mk (ho); replace BK752 := Aside0.mk (blk_grown (g := gb752) (o := .cells #[.int .i64 a0_0, .int .i64 a0_1, .int .i64 a0_2, .int .i64 a0_3, .slice A0_4 l0_4.length c0_4] 38 (0, 0)) (bf_ NB752_761.out BK752.out) hg (Kd.R_ne HO_762004.out BK752.out (by decide))); replace BK753 := Aside0.mk (blk_grown (g := gb753) (o := .cells #[.int .i64 x754000_7, .int .i64 x754001_7, .int .i64 x754002_7, .int .i64 x754003_7, .slice none 0 0] 38 (0, 0)) (bf_ NB753_761.out BK753.out) hg (Kd.R_ne HO_762004.out BK753.out (by decide))); replace BK761 := Aside0.mk (blk_grown (g := gb761) (o := .cells #[.int .i64 t754, .int .i64 t755, .int .i64 a2, .int .i64 a3, u762004] 38 (0, 0)) (bp_ BK761.out) hg (Kd.R_ne HO_762004.out BK761.out (by decide))); replace HB := Aside0.mk (hb); clear HO_762004; clear ho hb hg hat; obtain ⟨Ao66, co66, eo66⟩ := Kd.R_slice HO766.out; subst eo66; have hcz67_0 : w65.cell? ⟨gb761, 0, none⟩ = some (.int .i64 t754) := bc_ BK761 0; have hcz67_1 : w65.cell? ⟨gb761, 1, none⟩ = some (.int .i64 t755) := bc_ BK761 1; have hcz67_2 : w65.cell? ⟨gb761, 2, none⟩ = some (.int .i64 a2) := bc_ BK761 2; have hcz67_3 : w65.cell? ⟨gb761, 3, none⟩ = some (.int .i64 a3) := bc_ BK761 3; have hcz67_4 : w65.cell? ⟨gb761, 4, none⟩ = some (u762004) := bc_ BK761 4; have hfz67_0 := blk_frozen BK761.out 0; have hfz67_1 := blk_frozen BK761.out 1; have hfz67_2 := blk_frozen BK761.out 2; have hfz67_3 := blk_frozen BK761.out 3; have hfz67_4 := blk_frozen BK761.out 4))
       obtain ⟨w68, qe_⟩ : ∃ x_, x_ = (w65.setCell ⟨gb761, 4, none⟩ (.slice Ao66 y764.length co66)) := ⟨_, rfl⟩
       rw [← qe_]
       replace HO766 : Aside0 (Kd.R k_Mark 110 w68 w.heap.size (fun _ => True) (.slice Ao66 y764.length co66) y764) := ⟨by rw [qe_]; exact by (with_reducible repeat (first | apply Kd.R_alloc | apply Kd.R_drewN | apply Kd.R_drew)); exact Kd.R_mono (Kd.R_far (p := ⟨gb761, 4, none⟩) (Kd.R_types HO766.out BK761.out (by decide)) (fun _ hk => hk.2) (.slice Ao66 y764.length co66)) (fun _ hk => trivial)⟩
       replace BK752 := fl_ qe_ BK752
       replace BK753 := fl_ qe_ BK753
       replace BK761 : Aside0 (w68.heap[gb761]? = some (.cells #[.int .i64 t754, .int .i64 t755, .int .i64 a2, .int .i64 a3, .slice Ao66 y764.length co66] 38 (0, 0))) := ⟨by rw [qe_]; exact bp_ BK761.out⟩
       replace HB : Aside0 (Below w.heap.size w w68) := ⟨by rw [qe_]; exact hb_ HB.out⟩
       clear qe_
       replace HO766 := Aside0.mk (Kd.R_drew HO766.out)
       replace BK752 := Aside0.mk (blk_drew BK752.out)
       replace BK753 := Aside0.mk (blk_drew BK753.out)
       replace BK761 := Aside0.mk (blk_drew BK761.out)
       replace HB := Aside0.mk (below_drew1 HB.out)
       refine start_ (n := 6) (S := fun w' => w'.cell? ⟨gb761, 0, none⟩ = some (.int .i64 t754) ∧ w'.cell? ⟨gb761, 1, none⟩ = some (.int .i64 t755) ∧ w'.cell? ⟨gb761, 2, none⟩ = some (.int .i64 a2) ∧ w'.cell? ⟨gb761, 3, none⟩ = some (.int .i64 a3) ∧ w'.cell? ⟨gb761, 4, none⟩ = some (.slice Ao66 y764.length co66)) (ds := []) #[false, false, false, false, false, false] (by kernel_rfl) rfl rfl ⟨bc_ BK761 0, bc_ BK761 1, bc_ BK761 2, bc_ BK761 3, bc_ BK761 4⟩ (fun hHeld => ?_)
       generalize w68.drew = w69 at HO766 BK752 BK753 BK761 HB hHeld ⊢
       refine pure_ (i := 0) (N := some 43) (v := ?_) (a' := ?_) #[true, false, false, false, false, false] rfl rfl (by kernel_rfl) (fun _ _ _ h => h) (Or.inl ⟨by rfl, ?_⟩) ?_ ?_; rotate_left; (focus intro w'; go_simp; with_reducible rfl); rotate_left; (focus simp only [Act.put, List.setIfInBounds_toArray, List.set_cons_zero, List.set_cons_succ, i64_w, i32_w]; rfl)
       refine pure_ (i := 3) (N := some 46) (v := ?_) (a' := ?_) #[true, false, false, true, false, false] rfl rfl (by kernel_rfl) (fun _ _ _ h => h) (Or.inl ⟨by rfl, ?_⟩) ?_ ?_; rotate_left; (focus intro w'; go_simp; with_reducible rfl); rotate_left; (focus simp only [Act.put, List.setIfInBounds_toArray, List.set_cons_zero, List.set_cons_succ, i64_w, i32_w]; rfl)
       refine take_ (i := 1) (N := some 44) (v := ?_) (a' := ?_) #[true, true, false, true, false, false] rfl rfl (by kernel_rfl) (fun _ _ _ h => h) (Or.inl ⟨by rfl, ?_⟩) hHeld ?_ ?_
       rotate_left
       ·
        rintro w' ⟨s0, s1, s2, s3, s4⟩
        go_simp
        with_reducible rfl
       rotate_left; (focus simp only [Act.put, List.setIfInBounds_toArray, List.set_cons_zero, List.set_cons_succ, i64_w, i32_w]; rfl)
       refine pure_ (i := 2) (N := some 45) (v := ?_) (a' := ?_) #[true, true, true, true, false, false] rfl rfl (by kernel_rfl) (fun _ _ _ h => h) (Or.inl ⟨by rfl, ?_⟩) ?_ ?_; rotate_left; (focus intro w'; go_simp; with_reducible rfl); rotate_left; (focus simp only [Act.put, List.setIfInBounds_toArray, List.set_cons_zero, List.set_cons_succ, i64_w, i32_w]; rfl)
       refine one_ (i := 4) (N := some 47) #[true, true, true, true, true, false] rfl rfl (by kernel_rfl) (by decide) (fun K hK => ?_)
       refine goes_ Try.func79 (by kernel_rfl) rfl #[.int .i64 a1, .int .i64 0] (by rfl) rfl rfl sm_ ?_
       with_reducible refine (spec_l1Max.calls a1 0 t767 _ A36.out).mono ?_
       rintro e w' ⟨rfl, ⟨nd, rfl⟩⟩
       refine ⟨_, rfl, ?_⟩
       refine hK.out _ _ ⟨bc_ BK761 0, bc_ BK761 1, bc_ BK761 2, bc_ BK761 3, bc_ BK761 4⟩ (fun hHeld => ?_)
       clear hK K
       refine nm_ ?_
       refine pure_ (i := 5) (N := some 48) (v := ?_) (a' := ?_) #[true, true, true, true, true, true] rfl rfl (by kernel_rfl) (fun _ _ _ h => h) (Or.inl ⟨by rfl, ?_⟩) ?_ ?_; rotate_left; (focus intro w'; go_simp; with_reducible rfl); rotate_left; (focus simp only [Act.put, List.setIfInBounds_toArray, List.set_cons_zero, List.set_cons_succ, i64_w, i32_w]; rfl)
       refine done_ (by kernel_rfl) ?_
       have hcz70_0 : w69.cell? ⟨gb761, 0, none⟩ = some (.int .i64 t754) := bc_ BK761 0
       have hcz70_1 : w69.cell? ⟨gb761, 1, none⟩ = some (.int .i64 t755) := bc_ BK761 1
       have hcz70_2 : w69.cell? ⟨gb761, 2, none⟩ = some (.int .i64 a2) := bc_ BK761 2
       have hcz70_3 : w69.cell? ⟨gb761, 3, none⟩ = some (.int .i64 a3) := bc_ BK761 3
       have hcz70_4 : w69.cell? ⟨gb761, 4, none⟩ = some (.slice Ao66 y764.length co66) := bc_ BK761 4
       have hfz70_0 := blk_frozen BK761.out 0
       have hfz70_1 := blk_frozen BK761.out 1
       have hfz70_2 := blk_frozen BK761.out 2
       have hfz70_3 := blk_frozen BK761.out 3
       have hfz70_4 := blk_frozen BK761.out 4
       have hnb71 := NB753_752.out
       have hnc71 := NB752_753.out
       have hcz72_0 : w69.cell? ⟨gb753, 0, none⟩ = some (.int .i64 x754000_7) := bc_ BK753 0
       have hcz72_1 : w69.cell? ⟨gb753, 1, none⟩ = some (.int .i64 x754001_7) := bc_ BK753 1
       have hcz72_2 : w69.cell? ⟨gb753, 2, none⟩ = some (.int .i64 x754002_7) := bc_ BK753 2
       have hcz72_3 : w69.cell? ⟨gb753, 3, none⟩ = some (.int .i64 x754003_7) := bc_ BK753 3
       have hcz72_4 : w69.cell? ⟨gb753, 4, none⟩ = some (.slice none 0 0) := bc_ BK753 4
       have hfz72_0 := blk_frozen BK753.out 0
       have hfz72_1 := blk_frozen BK753.out 1
       have hfz72_2 := blk_frozen BK753.out 2
       have hfz72_3 := blk_frozen BK753.out 3
       have hfz72_4 := blk_frozen BK753.out 4
       try go_wp2
       refine bodyPost_ret (results_cell_row rfl _ _ gb753 38 #[.int .i64 t754, .int .i64 t755, .int .i64 a2, .int .i64 a3, .slice Ao66 y764.length co66] (0, 0) _ rfl (bp_ BK753.out) Try.underlying38 rfl (by kernel_rfl)) rfl ?_
       exact ⟨_, er_, by (with_reducible repeat (first | apply Kd.R_alloc | apply Kd.R_drewN | apply Kd.R_drew)); exact Kd.R_mono (Kd.R_far (p := ⟨gb753, 4, none⟩) (Kd.R_far (p := ⟨gb753, 3, none⟩) (Kd.R_far (p := ⟨gb753, 2, none⟩) (Kd.R_far (p := ⟨gb753, 1, none⟩) (Kd.R_far (p := ⟨gb753, 0, none⟩) (Kd.R_types HO766.out BK753.out (by decide)) (fun _ hk => hk.2) (.int .i64 t754)) (fun _ hk => hk.2) (.int .i64 t755)) (fun _ hk => hk.2) (.int .i64 a2)) (fun _ hk => hk.2) (.int .i64 a3)) (fun _ hk => hk.2) (.slice Ao66 y764.length co66)) (fun _ hk => trivial), hb_ HB.out⟩
     ·
      rw [if_neg c35] at H
      exact absurd H (by simp)
/-! ### spec_l4DrawRight: function 107 -/
mutual
def spec_l4DrawRight.l0 : Nat → Int → List Int → Int → Int → Int → Int → Int → Int → List (S_Mark) → Option (Int × Int × Int × Int × (List (S_Mark)) × Int × Int)
 | 0, _, _, _, _, _, _, _, _, _ => none
 | k + 1, x4, x1000, x1001, x1002, x787000, x787001, x787002, x787003, x787004 => (spec_l1Below.f x1000 x1001 x1002 8).bind fun bt787 => (if x4 < bt787.1 then (spec_l4DrawRight.j1 k x4 x1000 bt787.2.1 bt787.2.2 x787000 x787001 x787002 x787003 x787004) else (some (x787000, x787001, x787002, x787003, x787004, bt787.2.1, bt787.2.2)))
def spec_l4DrawRight.j1 : Nat → Int → List Int → Int → Int → Int → Int → Int → Int → List (S_Mark) → Option (Int × Int × Int × Int × (List (S_Mark)) × Int × Int)
 | 0, _, _, _, _, _, _, _, _, _ => none
 | k + 1, x4, x1000, x1001, x1002, x787000, x787001, x787002, x787003, x787004 => (spec_l1Below.f x1000 x1001 x1002 9).bind fun bt790 => (if (wrap64 (x787002 + (wrap64 (Int.tdiv bt790.1 8)))) > x787002 then (spec_l4DrawRight.j2 k x4 (wrap64 (x787002 + (wrap64 (Int.tdiv bt790.1 8)))) 0 x1000 bt790.2.1 bt790.2.2 x787000 x787001 x787002 x787003 x787004) else (spec_l4DrawRight.j2 k x4 (wrap64 (x787002 + (wrap64 (Int.tdiv bt790.1 8)))) (wrap64 (x787003 + 1)) x1000 bt790.2.1 bt790.2.2 x787000 x787001 x787002 x787003 x787004))
def spec_l4DrawRight.j2 : Nat → Int → Int → Int → List Int → Int → Int → Int → Int → Int → Int → List (S_Mark) → Option (Int × Int × Int × Int × (List (S_Mark)) × Int × Int)
 | 0, _, _, _, _, _, _, _, _, _, _, _ => none
 | k + 1, x4, x5, x6, x1000, x1001, x1002, x787000, x787001, x787002, x787003, x787004 => (spec_l1Below.f x1000 x1001 x1002 3).bind fun bt793 => ((spec_MakerPut.f k x787000 x787001 x787002 x787003 x787004 (wrap64 (1 + bt793.1)) x5 x6 (wrap64 (2 * x4))).bind fun bt796 => (spec_l4DrawRight.l0 k (wrap64 (x4 + 1)) x1000 bt793.2.1 bt793.2.2 bt796.1 bt796.2.1 bt796.2.2.1 bt796.2.2.2.1 bt796.2.2.2.2))
end
def spec_l4DrawRight.f (k : Nat) (s0_0 : List Int) (s0_1 : Int) (s0_2 : Int) : Option (Int × Int × Int × Int × (List (S_Mark)) × Int × Int) := (spec_l1Below.f s0_0 s0_1 s0_2 3).bind fun bt780 => ((spec_l1Below.f s0_0 bt780.2.1 bt780.2.2 4).bind fun bt783 => (spec_l4DrawRight.l0 k 0 s0_0 bt783.2.1 bt783.2.2 bt780.1 bt783.1 0 (-1) ([] : List (S_Mark))))
theorem spec_l4DrawRight.mono_l : ∀ k, (∀ y0 y1 y2 y3 y4 y5 y6 y7 y8, LeO (spec_l4DrawRight.l0 k y0 y1 y2 y3 y4 y5 y6 y7 y8) (spec_l4DrawRight.l0 (k + 1) y0 y1 y2 y3 y4 y5 y6 y7 y8)) ∧ (∀ y0 y1 y2 y3 y4 y5 y6 y7 y8, LeO (spec_l4DrawRight.j1 k y0 y1 y2 y3 y4 y5 y6 y7 y8) (spec_l4DrawRight.j1 (k + 1) y0 y1 y2 y3 y4 y5 y6 y7 y8)) ∧ (∀ y0 y1 y2 y3 y4 y5 y6 y7 y8 y9 y10, LeO (spec_l4DrawRight.j2 k y0 y1 y2 y3 y4 y5 y6 y7 y8 y9 y10) (spec_l4DrawRight.j2 (k + 1) y0 y1 y2 y3 y4 y5 y6 y7 y8 y9 y10))
 | 0 => ⟨fun _ _ _ _ _ _ _ _ _ r h => by simp [spec_l4DrawRight.l0] at h, fun _ _ _ _ _ _ _ _ _ r h => by simp [spec_l4DrawRight.j1] at h, fun _ _ _ _ _ _ _ _ _ _ _ r h => by simp [spec_l4DrawRight.j2] at h⟩
 | k + 1 => by
  obtain ⟨ih0, ih1, ih2⟩ := spec_l4DrawRight.mono_l k
  refine ⟨?_, ?_, ?_⟩
  ·
   intro y0 y1 y2 y3 y4 y5 y6 y7 y8
   unfold spec_l4DrawRight.l0
   exact qbh2_
  ·
   intro y0 y1 y2 y3 y4 y5 y6 y7 y8
   unfold spec_l4DrawRight.j1
   exact qbh2_
  ·
   intro y0 y1 y2 y3 y4 y5 y6 y7 y8 y9 y10
   unfold spec_l4DrawRight.j2
   exact qbh2_
theorem spec_l4DrawRight.mono : ∀ a0 a1 a2 k, LeO (spec_l4DrawRight.f k a0 a1 a2) (spec_l4DrawRight.f (k + 1) a0 a1 a2) := by
 intro a0 a1 a2 k
 obtain ⟨ih0, ih1, ih2⟩ := spec_l4DrawRight.mono_l k
 unfold spec_l4DrawRight.f
 exact qbh2_
def spec_l4DrawRight.T9 : Bool × List (List Nat × List Nat) := (true, [([], []), ([], []), ([1], [1]), ([2], [2]), ([], []), ([], []), ([], []), ([6], [6]), ([0, 3, 4, 5, 7, 2], [0, 3, 4, 5, 7]), ([8, 8, 0, 1, 2, 3, 4, 5, 6, 7, 8], [8])])
def spec_l4DrawRight.B9 : List Nat := [0, 0, 2, 6, 0, 0, 0, 64, 255, 511]
theorem spec_l4DrawRight.tab9 : rtab .any (opsOf Try.f107 9) = spec_l4DrawRight.T9 := by kernel_rfl
theorem spec_l4DrawRight.bits9 : waitsOk spec_l4DrawRight.T9.2 spec_l4DrawRight.B9 = true := by kernel_rfl
set_option maxHeartbeats 8000000 in
set_option maxRecDepth 100000 in
theorem spec_l4DrawRight.calls (k : Nat) (g : Nat) (s0_0 : List Int) (s0_1 : Int) (s0_2 : Int) (r1 : Int) (r2 : Int) (r3 : Int) (r4 : Int) (r5 : List (S_Mark)) (r6 : Int) (r7 : Int) (w0 w : World) (hI : IsS_l1Cur w0 w g s0_0 s0_1 s0_2) (hB : Below w0.heap.size w0 w) (h : spec_l4DrawRight.f k s0_0 s0_1 s0_2 = some (r1, r2, r3, r4, r5, r6, r7)) :
 Calls Try.prog 107 #[.pointer (some ⟨g, 0, none⟩)] w fun e w' => ∃ v4_ : Value, e = .returned (.agg #[.int .i64 r1, .int .i64 r2, .int .i64 r3, .int .i64 r4, v4_]) ∧ Kd.R k_Mark 110 w' w.heap.size (fun _ => True) v4_ r5 ∧ IsS_l1Cur w0 w' g s0_0 r6 r7 ∧ Below w0.heap.size w0 w' ∧ KeepBut w w' g none := by
 have hu38 := Try.underlying38
 have HI0 := Aside0.mk hI
 have HK := Aside0.mk (KeepBut.refl w g none)
 have HL := Aside0.mk hB.size
 clear hI
 have HW0 := Aside0.mk hB.size
 have HB := Aside0.mk hB
 clear hB
 have H : ((spec_l1Below.f s0_0 s0_1 s0_2 3).bind fun bt780 => ((spec_l1Below.f s0_0 bt780.2.1 bt780.2.2 4).bind fun bt783 => (spec_l4DrawRight.l0 k 0 s0_0 bt783.2.1 bt783.2.2 bt780.1 bt783.1 0 (-1) ([] : List (S_Mark))))) = some (r1, r2, r3, r4, r5, r6, r7) := h
 clear h
 replace H := Option.bind_eq_some_iff.mp H
 obtain ⟨⟨t780, t781, t782⟩, A20, H⟩ := H
 replace H : ((spec_l1Below.f s0_0 t781 t782 4).bind fun bt783 => (spec_l4DrawRight.l0 k 0 s0_0 bt783.2.1 bt783.2.2 t780 bt783.1 0 (-1) ([] : List (S_Mark)))) = some (r1, r2, r3, r4, r5, r6, r7) := H
 have A2 := Aside0.mk A20
 clear A20
 replace H := Option.bind_eq_some_iff.mp H
 obtain ⟨⟨t783, t784, t785⟩, A30, H⟩ := H
 replace H : (spec_l4DrawRight.l0 k 0 s0_0 t784 t785 t780 t783 0 (-1) ([] : List (S_Mark))) = some (r1, r2, r3, r4, r5, r6, r7) := H
 have A3 := Aside0.mk A30
 clear A30
 have H' := Aside0.mk H
 clear H
 go_enter Try.func107, Try.ntmps107
 go_wp2_with (first | ((with_reducible refine gate_dst (N := 2) rfl ?_); refine box_event ?hg (N := 2) ?hd (cs := #[.int .i64 0, .int .i64 0, .int .i64 0, .int .i64 0, .slice none 0 0]) (t := 38) ?hr ?_; (case hd => rfl); (case hg => rfl); (case hr => first | (go_simp; done) | (go_simp; rfl)); intro gb779 hg w4 hbox hb; have BK779 := Aside0.mk (hbox); have GW779 := Aside0.mk ((by rw [hg]; exact (keep_size (w := w) (g := g) (row := none) (hk_ HK.out)) : w.heap.size ≤ gb779)); have GE779 := Aside0.mk ((Nat.le_trans HW0.out (by rw [hg]; exact (keep_size (w := w) (g := g) (row := none) (hk_ HK.out)) : w.heap.size ≤ gb779) : w0.heap.size ≤ gb779)); have NB0_779 := Aside0.mk ((by rw [hg]; exact Nat.ne_of_lt (IsS_l1Cur.lt (show IsS_l1Cur w0 _ g s0_0 s0_1 s0_2 from is_l1Cur_ HI0.out)) : g ≠ gb779)); have NB779_0 := Aside0.mk ((by rw [hg]; exact Nat.ne_of_gt (IsS_l1Cur.lt (show IsS_l1Cur w0 _ g s0_0 s0_1 s0_2 from is_l1Cur_ HI0.out)) : gb779 ≠ g)); replace HI0 := Aside0.mk (IsS_l1Cur.below (is_l1Cur_ HI0.out) hb); replace HK := Aside0.mk (KeepBut.trans (hk_ HK.out) (KeepBut.of_below hb g none) (.inl rfl)); replace HB := Aside0.mk (below_step (hi_ HB.out) hb); clear hb hbox hg) | ((with_reducible refine gate_callee (f := 76) rfl ?_); refine goesL_ (some 8) rfl rfl Try.func76 (by kernel_rfl) rfl #[.pointer (some ⟨g, 0, none⟩), .int .i64 3] rfl sm_ ?_; (with_reducible refine (spec_l1Below.calls g s0_0 s0_1 s0_2 3 t780 t781 t782 w0 _ ?side1 ?side2 A2.out).mono ?_); (case side1 => repeat (first | (with_reducible first | exact HI0.out | apply IsS_l1Cur.alloc | apply IsS_l1Cur.drewN | apply IsS_l1Cur.drew | apply IsS_l1Cur.set_1 | apply IsS_l1Cur.set_2 | refine IsS_l1Cur.far ?_ NB0_779.out _) | exact HI0.out)); (case side2 => repeat (first | (with_reducible first | exact HB.out | apply below_alloc | apply pw_below_drewN | apply below_drew1 | refine below_set ?_ (IsS_l1Cur.ge HI0.out) | refine below_set ?_ GE779.out) | exact HB.out)); rintro e w5 ⟨rfl, hi, hb, hk⟩; refine ⟨_, rfl, ?_⟩; replace BK779 := Aside0.mk (KeepBut.blk hk (g' := gb779) (o := .cells #[.int .i64 0, .int .i64 0, .int .i64 0, .int .i64 0, .slice none 0 0] 38 (0, 0)) (bq_ BK779.out) NB779_0.out (by simp)); replace HK := Aside0.mk (KeepBut.trans (hk_ HK.out) hk (.inl rfl)); replace HB := Aside0.mk (hb); replace HI0 := Aside0.mk (hi); (try clear hb); (try clear hb2); (try clear hk); (try clear hi)) | ((with_reducible refine gate_callee (f := 76) rfl ?_); refine goesL_ (some 10) rfl rfl Try.func76 (by kernel_rfl) rfl #[.pointer (some ⟨g, 0, none⟩), .int .i64 4] rfl sm_ ?_; (with_reducible refine (spec_l1Below.calls g s0_0 t781 t782 4 t783 t784 t785 w0 _ ?side1 ?side2 A3.out).mono ?_); (case side1 => repeat (first | (with_reducible first | exact HI0.out | apply IsS_l1Cur.alloc | apply IsS_l1Cur.drewN | apply IsS_l1Cur.drew | apply IsS_l1Cur.set_1 | apply IsS_l1Cur.set_2 | refine IsS_l1Cur.far ?_ NB0_779.out _) | exact HI0.out)); (case side2 => repeat (first | (with_reducible first | exact HB.out | apply below_alloc | apply pw_below_drewN | apply below_drew1 | refine below_set ?_ (IsS_l1Cur.ge HI0.out) | refine below_set ?_ GE779.out) | exact HB.out)); rintro e w6 ⟨rfl, hi, hb, hk⟩; refine ⟨_, rfl, ?_⟩; replace BK779 := Aside0.mk (KeepBut.blk hk (g' := gb779) (o := .cells #[.int .i64 0, .int .i64 0, .int .i64 0, .int .i64 0, .slice none 0 0] 38 (0, 0)) (bq_ BK779.out) NB779_0.out (by simp)); replace HK := Aside0.mk (KeepBut.trans (hk_ HK.out) hk (.inl rfl)); replace HB := Aside0.mk (hb); replace HI0 := Aside0.mk (hi); (try clear hb); (try clear hb2); (try clear hk); (try clear hi)) | ((with_reducible refine gate_dst (N := 3) rfl ?_); refine box_event ?hg (N := 3) ?hd (cs := #[.int .i64 0, .int .i64 0, .int .i64 0, .int .i64 0, .slice none 0 0]) (t := 38) ?hr ?_; (case hd => rfl); (case hg => rfl); (case hr => first | (go_simp; done) | (go_simp; rfl)); intro gb786 hg w7 hbox hb; have BK786 := Aside0.mk (hbox); have GW786 := Aside0.mk ((by rw [hg]; exact (keep_size (w := w) (g := g) (row := none) (hk_ HK.out)) : w.heap.size ≤ gb786)); have GE786 := Aside0.mk ((Nat.le_trans HW0.out (by rw [hg]; exact (keep_size (w := w) (g := g) (row := none) (hk_ HK.out)) : w.heap.size ≤ gb786) : w0.heap.size ≤ gb786)); have NB779_786 := cn_ BK779 hg; have NB786_779 := cm_ BK779 hg; have NB0_786 := Aside0.mk ((by rw [hg]; exact Nat.ne_of_lt (IsS_l1Cur.lt (show IsS_l1Cur w0 _ g s0_0 t784 t785 from is_l1Cur_ HI0.out)) : g ≠ gb786)); have NB786_0 := Aside0.mk ((by rw [hg]; exact Nat.ne_of_gt (IsS_l1Cur.lt (show IsS_l1Cur w0 _ g s0_0 t784 t785 from is_l1Cur_ HI0.out)) : gb786 ≠ g)); replace HI0 := Aside0.mk (IsS_l1Cur.below (is_l1Cur_ HI0.out) hb); replace BK779 := cb_ BK779 hb; replace HK := Aside0.mk (KeepBut.trans (hk_ HK.out) (KeepBut.of_below hb g none) (.inl rfl)); replace HB := Aside0.mk (below_step (hi_ HB.out) hb); clear hb hbox hg; have hnb8 := NB786_779.out; have hnc8 := NB779_786.out; have hnb9 := NB786_0.out; have hnc9 := NB0_786.out; have hcz10_0 : w7.cell? ⟨gb786, 0, none⟩ = some (.int .i64 0) := bc_ BK786 0; have hcz10_1 : w7.cell? ⟨gb786, 1, none⟩ = some (.int .i64 0) := bc_ BK786 1; have hcz10_2 : w7.cell? ⟨gb786, 2, none⟩ = some (.int .i64 0) := bc_ BK786 2; have hcz10_3 : w7.cell? ⟨gb786, 3, none⟩ = some (.int .i64 0) := bc_ BK786 3; have hcz10_4 : w7.cell? ⟨gb786, 4, none⟩ = some (.slice none 0 0) := bc_ BK786 4; have hfz10_0 := blk_frozen BK786.out 0; have hfz10_1 := blk_frozen BK786.out 1; have hfz10_2 := blk_frozen BK786.out 2; have hfz10_3 := blk_frozen BK786.out 3; have hfz10_4 := blk_frozen BK786.out 4))
 go_loopg [4] k (fun kq v4 w' => ∃ (x4_1 : Int) (x1001_1 : Int) (x1002_1 : Int) (x787000_1 : Int) (x787001_1 : Int) (x787002_1 : Int) (x787003_1 : Int) (x787004_1 : List (S_Mark)) (u787004 : Value), v4 = .int .i64 x4_1 ∧ Aside0 (spec_l4DrawRight.l0 kq x4_1 s0_0 x1001_1 x1002_1 x787000_1 x787001_1 x787002_1 x787003_1 x787004_1 = some (r1, r2, r3, r4, r5, r6, r7)) ∧ Aside0 (kq ≤ k) ∧ Aside0 (Kd.R k_Mark 110 w' w.heap.size (fun _ => True) u787004 x787004_1) ∧ Aside0 (w'.heap[gb779]? = some (.cells #[.int .i64 0, .int .i64 0, .int .i64 0, .int .i64 0, (.slice none 0 0)] 38 (0, 0))) ∧ Aside0 (w'.heap[gb786]? = some (.cells #[.int .i64 x787000_1, .int .i64 x787001_1, .int .i64 x787002_1, .int .i64 x787003_1, u787004] 38 (0, 0))) ∧ Aside0 (IsS_l1Cur w0 w' g s0_0 x1001_1 x1002_1) ∧ Aside0 (KeepBut w w' g none) ∧ Aside0 (Below w0.heap.size w0 w'))
 case atStart => exact ⟨(0), (t784), (t785), (t780), (t783), (0), ((-1)), (([] : List (S_Mark))), (.slice none 0 0), (qb6_), H', ⟨Nat.le_refl _⟩, ⟨qb8_⟩, ⟨bf_ NB779_786.out BK779.out⟩, ⟨bp_ BK786.out⟩, ⟨is_l1Cur_ HI0.out⟩, ⟨qb3_⟩, ⟨qb2_⟩⟩
 case round =>
  clear H'
  (try clear hcz10_0); (try clear hcz10_1); (try clear hcz10_2); (try clear hcz10_3); (try clear hcz10_4); (try clear hfz10_0); (try clear hfz10_1); (try clear hfz10_2); (try clear hfz10_3); (try clear hfz10_4)
  obtain ⟨x4_1, x1001_1, x1002_1, x787000_1, x787001_1, x787002_1, x787003_1, x787004_1, u787004, rfl, HA, HK1, HO_787004, BK779, BK786, HI0, HK, HB⟩ := hrel
  cases gk with
  | zero => exact absurd HA.out (by simp [spec_l4DrawRight.l0])
  | succ k1 =>
   have H := HA.out
   clear HA
   simp only [spec_l4DrawRight.l0] at H
   replace H := Option.bind_eq_some_iff.mp H
   obtain ⟨⟨t787, t788, t789⟩, A110, H⟩ := H
   replace H : (if x4_1 < t787 then (spec_l4DrawRight.j1 k1 x4_1 s0_0 t788 t789 x787000_1 x787001_1 x787002_1 x787003_1 x787004_1) else (some (x787000_1, x787001_1, x787002_1, x787003_1, x787004_1, t788, t789))) = some (r1, r2, r3, r4, r5, r6, r7) := H
   have A11 := Aside0.mk A110
   clear A110
   have HC12 := Aside0.mk H
   clear H
   go_upto_if 15 with (first | ((with_reducible refine gate_callee (f := 76) rfl ?_); refine goesL_ (some 14) rfl rfl Try.func76 (by kernel_rfl) rfl #[.pointer (some ⟨g, 0, none⟩), .int .i64 8] rfl sm_ ?_; (with_reducible refine (spec_l1Below.calls g s0_0 x1001_1 x1002_1 8 t787 t788 t789 w0 _ ?side1 ?side2 A11.out).mono ?_); (case side1 => repeat (first | (with_reducible first | exact HI0.out | apply IsS_l1Cur.alloc | apply IsS_l1Cur.drewN | apply IsS_l1Cur.drew | apply IsS_l1Cur.set_1 | apply IsS_l1Cur.set_2 | refine IsS_l1Cur.far ?_ NB0_779.out _ | refine IsS_l1Cur.far ?_ NB0_786.out _) | exact HI0.out)); (case side2 => repeat (first | (with_reducible first | exact HB.out | apply below_alloc | apply pw_below_drewN | apply below_drew1 | refine below_set ?_ (IsS_l1Cur.ge HI0.out) | refine below_set ?_ GE779.out | refine below_set ?_ GE786.out) | exact HB.out)); rintro e w13 ⟨rfl, hi, hb, hk⟩; refine ⟨_, rfl, ?_⟩; replace HO_787004 := Aside0.mk (Kd.R_mono (Kd.R_keep (IsS_l1Cur.apart (show IsS_l1Cur w0 _ g s0_0 x1001_1 x1002_1 from is_l1Cur_ HI0.out) (rq_ HO_787004.out) (by decide)) hk (fun _ h => h.2)) (fun _ h => h.1)); replace BK779 := Aside0.mk (KeepBut.blk hk (g' := gb779) (o := .cells #[.int .i64 0, .int .i64 0, .int .i64 0, .int .i64 0, .slice none 0 0] 38 (0, 0)) (bq_ BK779.out) NB779_0.out (by simp)); replace BK786 := Aside0.mk (KeepBut.blk hk (g' := gb786) (o := .cells #[.int .i64 x787000_1, .int .i64 x787001_1, .int .i64 x787002_1, .int .i64 x787003_1, u787004] 38 (0, 0)) (bq_ BK786.out) NB786_0.out (by simp)); replace HK := Aside0.mk (KeepBut.trans (hk_ HK.out) hk (.inl rfl)); replace HB := Aside0.mk (hb); replace HI0 := Aside0.mk (hi); (try clear hb); (try clear hb2); (try clear hk); (try clear hi)))
   (try simp only [Act.put, List.setIfInBounds_toArray, List.set_cons_zero, List.set_cons_succ])
   go_cut [] (fun wc => ∃ (kq : Nat), Aside0 (spec_l4DrawRight.j1 kq x4_1 s0_0 t788 t789 x787000_1 x787001_1 x787002_1 x787003_1 x787004_1 = some (r1, r2, r3, r4, r5, r6, r7)) ∧ Aside0 (kq ≤ k1) ∧ Aside0 (Kd.R k_Mark 110 wc w.heap.size (fun _ => True) u787004 x787004_1) ∧ Aside0 (wc.heap[gb779]? = some (.cells #[.int .i64 0, .int .i64 0, .int .i64 0, .int .i64 0, (.slice none 0 0)] 38 (0, 0))) ∧ Aside0 (wc.heap[gb786]? = some (.cells #[.int .i64 x787000_1, .int .i64 x787001_1, .int .i64 x787002_1, .int .i64 x787003_1, u787004] 38 (0, 0))) ∧ Aside0 (IsS_l1Cur w0 wc g s0_0 t788 t789) ∧ Aside0 (KeepBut w wc g none) ∧ Aside0 (Below w0.heap.size w0 wc))
   case first =>
    have H := HC12.out
    clear HC12
    by_cases c14 : x4_1 < t787
    ·
     rw [if_pos c14] at H
     have c14b0 : decide (x4_1 < t787) = true := decide_eq_true c14
     clear c14
     (first | rw [c14b0] | (simp only [i64_w, i32_w]; rw [c14b0]) | rw [c14b4] | rw [c14b3] | skip)
     have H' := Aside0.mk H
     clear H
     go_wp2
     go_meet
     case rel => exact ⟨_, H', ⟨by have := HK1.out; first | omega | exact Nat.le_refl _⟩, ⟨rq_ HO_787004.out⟩, ⟨bq_ BK779.out⟩, ⟨bq_ BK786.out⟩, ⟨is_l1Cur_ HI0.out⟩, ⟨qb3_⟩, ⟨qb2_⟩⟩
    ·
     rw [if_neg c14] at H
     have c14b0 : decide (x4_1 < t787) = false := decide_eq_false c14
     clear c14
     (first | rw [c14b0] | (simp only [i64_w, i32_w]; rw [c14b0]) | rw [c14b4] | rw [c14b3] | skip)
     simp only [Option.some.injEq, Prod.mk.injEq] at H
     obtain ⟨rfl, rfl, rfl, rfl, rfl, rfl, rfl⟩ := H
     have hnb15 := NB786_779.out
     have hnc15 := NB779_786.out
     have hnb16 := NB786_0.out
     have hnc16 := NB0_786.out
     have hcz17_0 : w13.cell? ⟨gb786, 0, none⟩ = some (.int .i64 x787000_1) := bc_ BK786 0
     have hcz17_1 : w13.cell? ⟨gb786, 1, none⟩ = some (.int .i64 x787001_1) := bc_ BK786 1
     have hcz17_2 : w13.cell? ⟨gb786, 2, none⟩ = some (.int .i64 x787002_1) := bc_ BK786 2
     have hcz17_3 : w13.cell? ⟨gb786, 3, none⟩ = some (.int .i64 x787003_1) := bc_ BK786 3
     have hcz17_4 : w13.cell? ⟨gb786, 4, none⟩ = some (u787004) := bc_ BK786 4
     have hfz17_0 := blk_frozen BK786.out 0
     have hfz17_1 := blk_frozen BK786.out 1
     have hfz17_2 := blk_frozen BK786.out 2
     have hfz17_3 := blk_frozen BK786.out 3
     have hfz17_4 := blk_frozen BK786.out 4
     have hnb18 := NB779_0.out
     have hnc18 := NB0_779.out
     have hcz19_0 : w13.cell? ⟨gb779, 0, none⟩ = some (.int .i64 0) := bc_ BK779 0
     have hcz19_1 : w13.cell? ⟨gb779, 1, none⟩ = some (.int .i64 0) := bc_ BK779 1
     have hcz19_2 : w13.cell? ⟨gb779, 2, none⟩ = some (.int .i64 0) := bc_ BK779 2
     have hcz19_3 : w13.cell? ⟨gb779, 3, none⟩ = some (.int .i64 0) := bc_ BK779 3
     have hcz19_4 : w13.cell? ⟨gb779, 4, none⟩ = some (.slice none 0 0) := bc_ BK779 4
     have hfz19_0 := blk_frozen BK779.out 0
     have hfz19_1 := blk_frozen BK779.out 1
     have hfz19_2 := blk_frozen BK779.out 2
     have hfz19_3 := blk_frozen BK779.out 3
     have hfz19_4 := blk_frozen BK779.out 4
     obtain ⟨Ao20, co20, eo20⟩ := Kd.R_slice HO_787004.out
     subst eo20
     go_wp2
     refine bodyPost_ret (results_cell_row rfl _ _ gb779 38 #[.int .i64 x787000_1, .int .i64 x787001_1, .int .i64 x787002_1, .int .i64 x787003_1, .slice Ao20 x787004_1.length co20] (0, 0) _ rfl (bp_ BK779.out) Try.underlying38 rfl (by kernel_rfl)) rfl ?_
     exact ⟨_, er_, by (with_reducible repeat (first | apply Kd.R_alloc | apply Kd.R_drewN | apply Kd.R_drew)); exact Kd.R_mono (Kd.R_far (p := ⟨gb779, 4, none⟩) (Kd.R_far (p := ⟨gb779, 3, none⟩) (Kd.R_far (p := ⟨gb779, 2, none⟩) (Kd.R_far (p := ⟨gb779, 1, none⟩) (Kd.R_far (p := ⟨gb779, 0, none⟩) (Kd.R_types HO_787004.out BK779.out (by decide)) (fun _ hk => hk.2) (.int .i64 x787000_1)) (fun _ hk => hk.2) (.int .i64 x787001_1)) (fun _ hk => hk.2) (.int .i64 x787002_1)) (fun _ hk => hk.2) (.int .i64 x787003_1)) (fun _ hk => hk.2) (.slice Ao20 x787004_1.length co20)) (fun _ hk => trivial), is_l1Cur_ HI0.out, qb2_, qb3_⟩
   case rest =>
    clear HC12
    obtain ⟨kq, HA, HJ11, HO_787004, BK779, BK786, HI0, HK, HB⟩ := hcut
    cases kq with
    | zero => exact absurd HA.out (by simp [spec_l4DrawRight.j1])
    | succ kj11 =>
     have H := HA.out
     clear HA
     simp only [spec_l4DrawRight.j1] at H
     replace H := Option.bind_eq_some_iff.mp H
     obtain ⟨⟨t790, t791, t792⟩, A210, H⟩ := H
     replace H : (if (wrap64 (x787002_1 + (wrap64 (Int.tdiv t790 8)))) > x787002_1 then (spec_l4DrawRight.j2 kj11 x4_1 (wrap64 (x787002_1 + (wrap64 (Int.tdiv t790 8)))) 0 s0_0 t791 t792 x787000_1 x787001_1 x787002_1 x787003_1 x787004_1) else (spec_l4DrawRight.j2 kj11 x4_1 (wrap64 (x787002_1 + (wrap64 (Int.tdiv t790 8)))) (wrap64 (x787003_1 + 1)) s0_0 t791 t792 x787000_1 x787001_1 x787002_1 x787003_1 x787004_1)) = some (r1, r2, r3, r4, r5, r6, r7) := H
     have A21 := Aside0.mk A210
     clear A210
     have HC22 := Aside0.mk H
     clear H
     try go_wp2
     replace HO_787004 := Aside0.mk (Kd.R_drew HO_787004.out)
     replace BK779 := Aside0.mk (blk_drew BK779.out)
     replace BK786 := Aside0.mk (blk_drew BK786.out)
     replace HI0 := Aside0.mk (IsS_l1Cur.drew HI0.out)
     replace HK := Aside0.mk (keep_drew HK.out)
     replace HB := Aside0.mk (below_drew1 HB.out)
     refine start_ (n := 7) (S := fun w' => w'.cell? ⟨gb786, 0, none⟩ = some (.int .i64 x787000_1) ∧ w'.cell? ⟨gb786, 1, none⟩ = some (.int .i64 x787001_1) ∧ w'.cell? ⟨gb786, 2, none⟩ = some (.int .i64 x787002_1) ∧ w'.cell? ⟨gb786, 3, none⟩ = some (.int .i64 x787003_1) ∧ w'.cell? ⟨gb786, 4, none⟩ = some (u787004)) (ds := []) #[false, false, false, false, false, false, false] (by kernel_rfl) rfl rfl ⟨bc_ BK786 0, bc_ BK786 1, bc_ BK786 2, bc_ BK786 3, bc_ BK786 4⟩ (fun hHeld => ?_)
     generalize wc.drew = w23 at HO_787004 BK779 BK786 HI0 HK HB hHeld ⊢
     refine pure_ (i := 0) (N := some 18) (v := ?_) (a' := ?_) #[true, false, false, false, false, false, false] rfl rfl (by kernel_rfl) (fun _ _ _ h => h) (Or.inl ⟨by rfl, ?_⟩) ?_ ?_; rotate_left; (focus intro w'; go_simp; with_reducible rfl); rotate_left; (focus simp only [Act.put, List.setIfInBounds_toArray, List.set_cons_zero, List.set_cons_succ, i64_w, i32_w]; rfl)
     refine pure_ (i := 2) (N := some 20) (v := ?_) (a' := ?_) #[true, false, true, false, false, false, false] rfl rfl (by kernel_rfl) (fun _ _ _ h => h) (Or.inl ⟨by rfl, ?_⟩) ?_ ?_; rotate_left; (focus intro w'; go_simp; with_reducible rfl); rotate_left; (focus simp only [Act.put, List.setIfInBounds_toArray, List.set_cons_zero, List.set_cons_succ, i64_w, i32_w]; rfl)
     refine take_ (i := 1) (N := some 19) (v := ?_) (a' := ?_) #[true, true, true, false, false, false, false] rfl rfl (by kernel_rfl) (fun _ _ _ h => h) (Or.inl ⟨by rfl, ?_⟩) hHeld ?_ ?_
     rotate_left
     ·
      rintro w' ⟨s0, s1, s2, s3, s4⟩
      go_simp
      with_reducible rfl
     rotate_left; (focus simp only [Act.put, List.setIfInBounds_toArray, List.set_cons_zero, List.set_cons_succ, i64_w, i32_w]; rfl)
     refine one_ (i := 3) (N := some 21) #[true, true, true, true, false, false, false] rfl rfl (by kernel_rfl) (by decide) (fun K hK => ?_)
     refine goes_ Try.func76 (by kernel_rfl) rfl #[.pointer (some ⟨g, 0, none⟩), .int .i64 9] (by rfl) rfl rfl sm_ ?_
     with_reducible refine (spec_l1Below.calls g s0_0 t788 t789 9 t790 t791 t792 w0 _ ?side1 ?side2 A21.out).mono ?_
     (case side1 => repeat (first | (with_reducible first | exact HI0.out | apply IsS_l1Cur.alloc | apply IsS_l1Cur.drewN | apply IsS_l1Cur.drew | apply IsS_l1Cur.set_1 | apply IsS_l1Cur.set_2 | refine IsS_l1Cur.far ?_ NB0_779.out _ | refine IsS_l1Cur.far ?_ NB0_786.out _) | exact HI0.out))
     (case side2 => repeat (first | (with_reducible first | exact HB.out | apply below_alloc | apply pw_below_drewN | apply below_drew1 | refine below_set ?_ (IsS_l1Cur.ge HI0.out) | refine below_set ?_ GE779.out | refine below_set ?_ GE786.out) | exact HB.out))
     rintro e w24 ⟨rfl, hi, hb, hk⟩
     refine ⟨_, rfl, ?_⟩
     replace HO_787004 := Aside0.mk (Kd.R_mono (Kd.R_keep (IsS_l1Cur.apart (show IsS_l1Cur w0 _ g s0_0 t788 t789 from is_l1Cur_ HI0.out) (rq_ HO_787004.out) (by decide)) hk (fun _ h => h.2)) (fun _ h => h.1))
     replace BK779 := Aside0.mk (KeepBut.blk hk (g' := gb779) (o := .cells #[.int .i64 0, .int .i64 0, .int .i64 0, .int .i64 0, .slice none 0 0] 38 (0, 0)) (bq_ BK779.out) NB779_0.out (by simp))
     replace BK786 := Aside0.mk (KeepBut.blk hk (g' := gb786) (o := .cells #[.int .i64 x787000_1, .int .i64 x787001_1, .int .i64 x787002_1, .int .i64 x787003_1, u787004] 38 (0, 0)) (bq_ BK786.out) NB786_0.out (by simp))
     replace HK := Aside0.mk (KeepBut.trans (hk_ HK.out) hk (.inl rfl))
     replace HB := Aside0.mk (hb)
     replace HI0 := Aside0.mk (hi)
     (try clear hb); (try clear hb2); (try clear hk); (try clear hi)
     refine hK.out _ _ ⟨bc_ BK786 0, bc_ BK786 1, bc_ BK786 2, bc_ BK786 3, bc_ BK786 4⟩ (fun hHeld => ?_)
     clear hK K
     refine nm_ ?_
     refine pure_ (i := 4) (N := some 22) (v := ?_) (a' := ?_) #[true, true, true, true, true, false, false] rfl rfl (by kernel_rfl) (fun _ _ _ h => h) (Or.inl ⟨by rfl, ?_⟩) ?_ ?_; rotate_left; (focus intro w'; go_simp; with_reducible rfl); rotate_left; (focus simp only [Act.put, List.setIfInBounds_toArray, List.set_cons_zero, List.set_cons_succ, i64_w, i32_w]; rfl)
     refine pure_ (i := 5) (N := some 23) (v := ?_) (a' := ?_) #[true, true, true, true, true, true, false] rfl rfl (by kernel_rfl) (fun _ _ _ h => h) (Or.inl ⟨by rfl, ?_⟩) ?_ ?_; rotate_left; (focus intro w'; go_simp; with_reducible rfl); rotate_left; (focus simp only [Act.put, List.setIfInBounds_toArray, List.set_cons_zero, List.set_cons_succ, i64_w, i32_w]; rfl)
     refine pure_ (i := 6) (N := some 5) (v := ?_) (a' := ?_) #[true, true, true, true, true, true, true] rfl rfl (by kernel_rfl) (fun _ _ _ h => h) (Or.inl ⟨by rfl, ?_⟩) ?_ ?_; rotate_left; (focus intro w'; go_simp; with_reducible rfl); rotate_left; (focus simp only [Act.put, List.setIfInBounds_toArray, List.set_cons_zero, List.set_cons_succ, i64_w, i32_w]; rfl)
     refine done_ (by kernel_rfl) ?_
     have hnb25 := NB786_779.out
     have hnc25 := NB779_786.out
     have hnb26 := NB786_0.out
     have hnc26 := NB0_786.out
     have hcz27_0 : w24.cell? ⟨gb786, 0, none⟩ = some (.int .i64 x787000_1) := bc_ BK786 0
     have hcz27_1 : w24.cell? ⟨gb786, 1, none⟩ = some (.int .i64 x787001_1) := bc_ BK786 1
     have hcz27_2 : w24.cell? ⟨gb786, 2, none⟩ = some (.int .i64 x787002_1) := bc_ BK786 2
     have hcz27_3 : w24.cell? ⟨gb786, 3, none⟩ = some (.int .i64 x787003_1) := bc_ BK786 3
     have hcz27_4 : w24.cell? ⟨gb786, 4, none⟩ = some (u787004) := bc_ BK786 4
     have hfz27_0 := blk_frozen BK786.out 0
     have hfz27_1 := blk_frozen BK786.out 1
     have hfz27_2 := blk_frozen BK786.out 2
     have hfz27_3 := blk_frozen BK786.out 3
     have hfz27_4 := blk_frozen BK786.out 4
     go_upto_if 30 with (fail)
     go_cut [6] (fun v6 wc => ∃ (kq : Nat) (x6_21 : Int), v6 = .int .i64 x6_21 ∧ Aside0 (spec_l4DrawRight.j2 kq x4_1 (wrap64 (x787002_1 + (wrap64 (Int.tdiv t790 8)))) x6_21 s0_0 t791 t792 x787000_1 x787001_1 x787002_1 x787003_1 x787004_1 = some (r1, r2, r3, r4, r5, r6, r7)) ∧ Aside0 (kq ≤ kj11) ∧ Aside0 (Kd.R k_Mark 110 wc w.heap.size (fun _ => True) u787004 x787004_1) ∧ Aside0 (wc.heap[gb779]? = some (.cells #[.int .i64 0, .int .i64 0, .int .i64 0, .int .i64 0, (.slice none 0 0)] 38 (0, 0))) ∧ Aside0 (wc.heap[gb786]? = some (.cells #[.int .i64 x787000_1, .int .i64 x787001_1, .int .i64 x787002_1, .int .i64 x787003_1, u787004] 38 (0, 0))) ∧ Aside0 (IsS_l1Cur w0 wc g s0_0 t791 t792) ∧ Aside0 (KeepBut w wc g none) ∧ Aside0 (Below w0.heap.size w0 wc))
     case first =>
      have H := HC22.out
      clear HC22
      by_cases c28 : (wrap64 (x787002_1 + (wrap64 (Int.tdiv t790 8)))) > x787002_1
      ·
       rw [if_pos c28] at H
       have c28b0 : decide (x787002_1 < (wrap64 (x787002_1 + (wrap64 (Int.tdiv t790 8))))) = true := decide_eq_true c28
       clear c28
       (first | rw [c28b0] | (simp only [i64_w, i32_w]; rw [c28b0]) | rw [c28b4] | rw [c28b3] | skip)
       have H' := Aside0.mk H
       clear H
       go_wp2
       go_meet
       case rel => exact ⟨_, (0), (qb6_), H', ⟨by have := HK1.out; have := HJ11.out; first | omega | exact Nat.le_refl _⟩, ⟨rq_ HO_787004.out⟩, ⟨bq_ BK779.out⟩, ⟨bq_ BK786.out⟩, ⟨is_l1Cur_ HI0.out⟩, ⟨qb3_⟩, ⟨qb2_⟩⟩
      ·
       rw [if_neg c28] at H
       have c28b0 : decide (x787002_1 < (wrap64 (x787002_1 + (wrap64 (Int.tdiv t790 8))))) = false := decide_eq_false c28
       clear c28
       (first | rw [c28b0] | (simp only [i64_w, i32_w]; rw [c28b0]) | rw [c28b4] | rw [c28b3] | skip)
       have H' := Aside0.mk H
       clear H
       go_wp2
       go_meet
       case rel => exact ⟨_, (wrap64 (x787003_1 + 1)), (qb6_), H', ⟨by have := HK1.out; have := HJ11.out; first | omega | exact Nat.le_refl _⟩, ⟨rq_ HO_787004.out⟩, ⟨bq_ BK779.out⟩, ⟨bq_ BK786.out⟩, ⟨is_l1Cur_ HI0.out⟩, ⟨qb3_⟩, ⟨qb2_⟩⟩
     case rest =>
      clear HC22
      (try clear hcz27_0); (try clear hcz27_1); (try clear hcz27_2); (try clear hcz27_3); (try clear hcz27_4); (try clear hfz27_0); (try clear hfz27_1); (try clear hfz27_2); (try clear hfz27_3); (try clear hfz27_4)
      obtain ⟨kq, x6_21, rfl, HA, HJ21, HO_787004, BK779, BK786, HI0, HK, HB⟩ := hcut
      cases kq with
      | zero => exact absurd HA.out (by simp [spec_l4DrawRight.j2])
      | succ kj21 =>
       have H := HA.out
       clear HA
       simp only [spec_l4DrawRight.j2] at H
       replace H := Option.bind_eq_some_iff.mp H
       obtain ⟨⟨t793, t794, t795⟩, A290, H⟩ := H
       replace H : ((spec_MakerPut.f kj21 x787000_1 x787001_1 x787002_1 x787003_1 x787004_1 (wrap64 (1 + t793)) (wrap64 (x787002_1 + (wrap64 (Int.tdiv t790 8)))) x6_21 (wrap64 (2 * x4_1))).bind fun bt796 => (spec_l4DrawRight.l0 kj21 (wrap64 (x4_1 + 1)) s0_0 t794 t795 bt796.1 bt796.2.1 bt796.2.2.1 bt796.2.2.2.1 bt796.2.2.2.2)) = some (r1, r2, r3, r4, r5, r6, r7) := H
       have A29 := Aside0.mk A290
       clear A290
       replace H := Option.bind_eq_some_iff.mp H
       obtain ⟨⟨t796, t797, t798, t799, t800⟩, A300, H⟩ := H
       replace H : (spec_l4DrawRight.l0 kj21 (wrap64 (x4_1 + 1)) s0_0 t794 t795 t796 t797 t798 t799 t800) = some (r1, r2, r3, r4, r5, r6, r7) := H
       have A30 := Aside0.mk A300
       clear A300
       have H' := Aside0.mk H
       clear H
       try go_wp2
       replace HO_787004 := Aside0.mk (Kd.R_drew HO_787004.out)
       replace BK779 := Aside0.mk (blk_drew BK779.out)
       replace BK786 := Aside0.mk (blk_drew BK786.out)
       replace HI0 := Aside0.mk (IsS_l1Cur.drew HI0.out)
       replace HK := Aside0.mk (keep_drew HK.out)
       replace HB := Aside0.mk (below_drew1 HB.out)
       refine start_ (n := 10) (S := fun w' => w'.cell? ⟨gb786, 0, none⟩ = some (.int .i64 x787000_1) ∧ w'.cell? ⟨gb786, 1, none⟩ = some (.int .i64 x787001_1) ∧ w'.cell? ⟨gb786, 2, none⟩ = some (.int .i64 x787002_1) ∧ w'.cell? ⟨gb786, 3, none⟩ = some (.int .i64 x787003_1) ∧ w'.cell? ⟨gb786, 4, none⟩ = some (u787004)) (ds := [9]) #[false, false, false, false, false, false, false, false, false, false] (by kernel_rfl) rfl rfl ⟨bc_ BK786 0, bc_ BK786 1, bc_ BK786 2, bc_ BK786 3, bc_ BK786 4⟩ (fun hHeld => ?_); refine with_tabW spec_l4DrawRight.tab9 spec_l4DrawRight.bits9 (fun HT_ HW_ => ?_)
       generalize wc.drew = w31 at HO_787004 BK779 BK786 HI0 HK HB hHeld ⊢
       refine pI_ 1 32 HT_ #[false, true, false, false, false, false, false, false, false, false] rfl rfl ?_
       refine pI_ 4 35 HT_ #[false, true, false, false, true, false, false, false, false, false] rfl rfl ?_
       refine pI_ 5 36 HT_ #[false, true, false, false, true, true, false, false, false, false] rfl rfl ?_
       refine pI_ 6 37 HT_ #[false, true, false, false, true, true, true, false, false, false] rfl rfl ?_
       refine pI_ 7 38 HT_ #[false, true, false, false, true, true, true, true, false, false] rfl rfl ?_
       refine tk_ 0 31 HT_ HW_ #[true, true, false, false, true, true, true, true, false, false] rfl rfl hHeld ?_
       refine on_ 2 33 HT_ #[true, true, true, false, true, true, true, true, false, false] rfl rfl (fun K hK => ?_)
       refine goes_ Try.func76 (by kernel_rfl) rfl #[.pointer (some ⟨g, 0, none⟩), .int .i64 3] (by rfl) rfl rfl sm_ ?_
       with_reducible refine (spec_l1Below.calls g s0_0 t791 t792 3 t793 t794 t795 w0 _ ?side1 ?side2 A29.out).mono ?_
       (case side1 => repeat (first | (with_reducible first | exact HI0.out | apply IsS_l1Cur.alloc | apply IsS_l1Cur.drewN | apply IsS_l1Cur.drew | apply IsS_l1Cur.set_1 | apply IsS_l1Cur.set_2 | refine IsS_l1Cur.far ?_ NB0_779.out _ | refine IsS_l1Cur.far ?_ NB0_786.out _) | exact HI0.out))
       (case side2 => repeat (first | (with_reducible first | exact HB.out | apply below_alloc | apply pw_below_drewN | apply below_drew1 | refine below_set ?_ (IsS_l1Cur.ge HI0.out) | refine below_set ?_ GE779.out | refine below_set ?_ GE786.out) | exact HB.out))
       rintro e w32 ⟨rfl, hi, hb, hk⟩
       refine ⟨_, rfl, ?_⟩
       replace HO_787004 := Aside0.mk (Kd.R_mono (Kd.R_keep (IsS_l1Cur.apart (show IsS_l1Cur w0 _ g s0_0 t791 t792 from is_l1Cur_ HI0.out) (rq_ HO_787004.out) (by decide)) hk (fun _ h => h.2)) (fun _ h => h.1))
       replace BK779 := Aside0.mk (KeepBut.blk hk (g' := gb779) (o := .cells #[.int .i64 0, .int .i64 0, .int .i64 0, .int .i64 0, .slice none 0 0] 38 (0, 0)) (bq_ BK779.out) NB779_0.out (by simp))
       replace BK786 := Aside0.mk (KeepBut.blk hk (g' := gb786) (o := .cells #[.int .i64 x787000_1, .int .i64 x787001_1, .int .i64 x787002_1, .int .i64 x787003_1, u787004] 38 (0, 0)) (bq_ BK786.out) NB786_0.out (by simp))
       replace HK := Aside0.mk (KeepBut.trans (hk_ HK.out) hk (.inl rfl))
       replace HB := Aside0.mk (hb)
       replace HI0 := Aside0.mk (hi)
       (try clear hb); (try clear hk); (try clear hi)
       obtain ⟨Ao33, co33, eo33⟩ := Kd.R_slice HO_787004.out
       (first | subst eo33 | (injection eo33 with f1_ f2_ f3_; have f4_ := f1_.symm; have f5_ := f3_.symm; clear f1_ f2_ f3_; subst f4_; subst f5_))
       refine hK.out _ _ ⟨bc_ BK786 0, bc_ BK786 1, bc_ BK786 2, bc_ BK786 3, bc_ BK786 4⟩ (fun hHeld => ?_)
       clear hK K
       refine nm_ ?_
       refine pI_ 3 34 HT_ #[true, true, true, true, true, true, true, true, false, false] rfl rfl ?_
       refine on_ 8 39 HT_ #[true, true, true, true, true, true, true, true, true, false] rfl rfl (fun K hK => ?_)
       refine goes_ Try.func40 (by kernel_rfl) rfl #[.agg #[.int .i64 x787000_1, .int .i64 x787001_1, .int .i64 x787002_1, .int .i64 x787003_1, .slice Ao33 x787004_1.length co33], .int .i64 (wrap64 (1 + t793)), .int .i64 (wrap64 (x787002_1 + (wrap64 (Int.tdiv t790 8)))), .int .i64 x6_21, .int .i64 (wrap64 (2 * x4_1))] (by rfl) rfl rfl sm_ ?_
       with_reducible refine (spec_MakerPut.calls kj21 x787000_1 x787001_1 x787002_1 x787003_1 _ _ x787004_1 (wrap64 (1 + t793)) (wrap64 (x787002_1 + (wrap64 (Int.tdiv t790 8)))) x6_21 (wrap64 (2 * x4_1)) t796 t797 t798 t799 t800 _ ?side1 ?side2 A30.out).mono ?_
       (case side1 => repeat (first | exact (Kd.R_reads' HO_787004.out).2.2 | (with_reducible refine Kd.C_alloc ?_ _) | (with_reducible refine Kd.C_drewN ?_ _) | (with_reducible refine Kd.C_drew ?_)))
       (case side2 => exact (Kd.R_reads' HO_787004.out).2.1)
       rintro e w34 ⟨v801, rfl, ho0, hb⟩
       refine ⟨_, rfl, ?_⟩
       have HO802 := Aside0.mk (Kd.R_lower (Kd.R_new' ho0 (Kd.R_lt (rq_ HO_787004.out))) (keep_size (w := w) (g := g) (row := none) (hk_ HK.out)))
       replace HO_787004 := Aside0.mk (Kd.R_elder' (rq_ HO_787004.out) (Kd.R_base ho0) hb)
       replace BK779 := cb_ BK779 hb
       replace BK786 := cb_ BK786 hb
       replace HI0 := Aside0.mk (IsS_l1Cur.below (is_l1Cur_ HI0.out) hb)
       replace HK := Aside0.mk (KeepBut.trans (hk_ HK.out) (KeepBut.of_below hb g none) (.inl rfl))
       replace HB := Aside0.mk (below_step (hi_ HB.out) hb)
       (try clear hb); (try clear ho0)
       obtain ⟨Ao39, co39, eo39⟩ := Kd.R_slice HO802.out
       (first | subst eo39 | (injection eo39 with f1_ f2_ f3_; have f4_ := f1_.symm; have f5_ := f3_.symm; clear f1_ f2_ f3_; subst f4_; subst f5_))
       refine hK.out _ _ ⟨bc_ BK786 0, bc_ BK786 1, bc_ BK786 2, bc_ BK786 3, bc_ BK786 4⟩ (fun hHeld => ?_)
       clear hK K
       refine nm_ ?_
       refine last_ (i := 9) (N := none) #[true, true, true, true, true, true, true, true, true, true] rfl rfl (one_of HT_.out (by kernel_rfl)) (by decide) (fun K hK => ?_)
       have hs35 : w34.cell? ⟨gb786, 0, none⟩ = some (.int .i64 x787000_1) := bc_ BK786 0
       have hfs35 := blk_frozen BK786.out 0
       have hns35_0 := NB779_786.out
       have hms35_0 := NB786_779.out
       have hs36 : w34.cell? ⟨gb786, 1, none⟩ = some (.int .i64 x787001_1) := bc_ BK786 1
       have hfs36 := blk_frozen BK786.out 1
       have hns36_0 := NB779_786.out
       have hms36_0 := NB786_779.out
       have hs37 : w34.cell? ⟨gb786, 2, none⟩ = some (.int .i64 x787002_1) := bc_ BK786 2
       have hfs37 := blk_frozen BK786.out 2
       have hns37_0 := NB779_786.out
       have hms37_0 := NB786_779.out
       have hs38 : w34.cell? ⟨gb786, 3, none⟩ = some (.int .i64 x787003_1) := bc_ BK786 3
       have hfs38 := blk_frozen BK786.out 3
       have hns38_0 := NB779_786.out
       have hms38_0 := NB786_779.out
       have hs40 : w34.cell? ⟨gb786, 4, none⟩ = some (.slice Ao33 x787004_1.length co33) := bc_ BK786 4
       have hfs40 := blk_frozen BK786.out 4
       have hns40_0 := NB779_786.out
       have hms40_0 := NB786_779.out
       refine skip_ (w1 := ?_) (by rfl) rfl ?_ ?_
       rotate_left; (focus go_simp; rfl)
       refine hK.out _ _ ?_
       clear hK K
       refine done_ (done_of HT_.out (by kernel_rfl)) ?_
       try go_wp2
       go_roundg kj21
       case measure => have := HK1.out; have := HJ11.out; have := HJ21.out; omega
       case rel => exact ⟨(wrap64 (x4_1 + 1)), (t794), (t795), (t796), (t797), (t798), (t799), (t800), (.slice Ao39 t800.length co39), (qb6_), H', ⟨by have := HK1.out; have := HJ11.out; have := HJ21.out; omega⟩, ⟨by (with_reducible repeat (first | apply Kd.R_alloc | apply Kd.R_drewN | apply Kd.R_drew)); exact Kd.R_mono (Kd.R_far (p := ⟨gb786, 4, none⟩) (Kd.R_far (p := ⟨gb786, 3, none⟩) (Kd.R_far (p := ⟨gb786, 2, none⟩) (Kd.R_far (p := ⟨gb786, 1, none⟩) (Kd.R_far (p := ⟨gb786, 0, none⟩) (Kd.R_types HO802.out BK786.out (by decide)) (fun _ hk => hk.2) (.int .i64 t796)) (fun _ hk => hk.2) (.int .i64 t797)) (fun _ hk => hk.2) (.int .i64 t798)) (fun _ hk => hk.2) (.int .i64 t799)) (fun _ hk => hk.2) (.slice Ao39 t800.length co39)) (fun _ hk => trivial)⟩, ⟨bf_ NB779_786.out BK779.out⟩, ⟨bp_ BK786.out⟩, ⟨is_l1Cur_ HI0.out⟩, ⟨qb3_⟩, ⟨qb2_⟩⟩
end Go.Proofs.Ythmjhhkheohgfaa.Q
