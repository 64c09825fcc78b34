/- Made by a program of ours out of the print of the loaded functions: for each of some functions a plain function, and the walk that shows that a call comes to what it says. No condition but those of each theorem. -/
import Derived.Test.YthmjhhkheohgfaaZFnTrimmed0
import Derived.Test.YthmjhhkheohgfaaZFnTrimmeda
import Derived.Test.YthmjhhkheohgfaaZFnTrimmedb
import Derived.Test.YthmjhhkheohgfaaZFnTrimmedc
import Derived.Test.YthmjhhkheohgfaaZFnTrimmede
namespace Go.Proofs.Ythmjhhkheohgfaa.Q
open Go.RowKit Go.Proofs.YthmjhhkheohgfaaW.PrintWords Go.Proofs.YthmjhhkheohgfaaW.PrintLast Go.Proofs.YthmjhhkheohgfaaW.PrintMore
attribute [local go_sem] max2_int min2_int max_two min_two max_three min_three max_four min_four   -- for this text's walks alone
set_option linter.unusedVariables false
set_option linter.unusedSimpArgs false
theorem qf0_ {P : Prop} (h : P := by repeat (first | (with_reducible first | exact HB.out | apply below_alloc | apply pw_below_drewN | apply below_drew1 | refine below_set ?_ GE1172.out | refine below_set ?_ GE1173.out) | exact HB.out)) : P := h
theorem qf1_ {P : Prop} (h : P := by first | rfl | (simp; done) | (simp [*]; done)) : P := h
theorem qf2_ {P : Prop} (h : P := by repeat (first | (with_reducible first | exact HB.out | apply below_alloc | apply pw_below_drewN | apply below_drew1 | refine below_set ?_ GE1172.out) | exact HB.out)) : P := h
theorem qf3_ {P : Prop} (h : P := by rw [hw]; exact Kd.R_mono (Kd.R_far (p := ⟨g6, 2, none⟩) (Kd.R_far (p := ⟨g6, 1, none⟩) (Kd.R_far (p := ⟨g6, 0, none⟩) (Kd.R_types S2.out.row S2.out.b6 (by decide)) (fun _ hk => hk.2) _) (fun _ hk => hk.2) _) (fun _ hk => hk.2) _) (fun _ _ => trivial)) : P := h
theorem qf4_ {P : Prop} (h : P := by repeat (first | (with_reducible first | exact HB.out | apply below_alloc | apply pw_below_drewN | apply below_drew1) | exact HB.out)) : P := h
theorem qf5_ {P : Prop} (h : P := by have := HJ8.out; first | omega | exact Nat.le_refl _) : P := h
theorem qf6_ {P : Prop} (h : P := by first | rfl | (simp [errW_none, errW_some] <;> rfl) | (simp [*, errW_none, errW_some] <;> rfl)) : P := h
theorem qf7_ {P : Prop} (h : P := by first | omega | exact Nat.le_refl _) : P := h
theorem qf8_ {P : Prop} (h : P := by have hgv : wr.heap.size ≤ gv := Nat.le_of_eq GV.out.symm; rw [hw]; exact below_set (below_set (below_set (below_set (below_set B7.out hgv) hgv) hgv) hgv) hgv) : P := h
theorem qf9_ {P : Prop} (h : P := by rw [e]; simp [Value.ownBlock]) : P := h
theorem qfh0_ {P : Prop} (h : P := by repeat' first | (with_reducible exact ih0 _ _ _ _ _ _ _) | (with_reducible exact ih1 _ _ _ _ _ _ _) | (with_reducible exact LeO.refl _) | (with_reducible exact LeO.none _) | (with_reducible refine LeO.ite ?_ ?_) | (with_reducible refine LeO.bind ?_ (fun _ => ?_)) | exact ih0 _ _ _ _ _ _ _ | exact ih1 _ _ _ _ _ _ _ | exact LeO.none _ | refine LeO.ite ?_ ?_ | refine LeO.bind ?_ (fun _ => ?_)) : P := h
theorem qfh1_ {P : Prop} (h : P := by repeat' first | (with_reducible exact ih0 _ _ _ _ _ _ _ _ _) | (with_reducible exact ih1 _ _ _ _ _ _ _ _ _ _) | (with_reducible exact ih2 _ _ _ _ _ _ _ _ _ _) | (with_reducible exact impl_RowOk.mono _ _ _ _) | (with_reducible exact impl_RowTrim.mono _ _ _ _ _ _) | (with_reducible exact laws_sameRow.mono _ _ _ _ _ _ _) | (with_reducible exact spec_DrawRowTrim.mono _ _) | (with_reducible exact spec_RowTrim.mono _ _ _ _ _ _) | (with_reducible exact LeO.refl _) | (with_reducible exact LeO.none _) | (with_reducible refine LeO.ite ?_ ?_) | (with_reducible refine LeO.bind ?_ (fun _ => ?_)) | exact ih0 _ _ _ _ _ _ _ _ _ | exact ih1 _ _ _ _ _ _ _ _ _ _ | exact ih2 _ _ _ _ _ _ _ _ _ _ | exact impl_RowOk.mono _ _ _ _ | exact impl_RowTrim.mono _ _ _ _ _ _ | exact laws_sameRow.mono _ _ _ _ _ _ _ | exact spec_DrawRowTrim.mono _ _ | exact spec_RowTrim.mono _ _ _ _ _ _ | exact LeO.none _ | refine LeO.ite ?_ ?_ | refine LeO.bind ?_ (fun _ => ?_)) : P := h

section
attribute [local go_sem high] eqA_Item
/-! ### laws_sameRow: function 12 -/
mutual
def laws_sameRow.j0 : Nat → Bool → Int → Int → List (S_Item) → Int → Int → List (S_Item) → Option (Bool)
  | 0, _, _, _, _, _, _, _ => none
  | k + 1, x26, x1173000, x1173001, x1173002, x1174000, x1174001, x1174002 => if x26 = true then (some false) else (laws_sameRow.l0 k 0 x1173000 x1173001 x1173002 x1174000 x1174001 x1174002)
def laws_sameRow.l0 : Nat → Int → Int → Int → List (S_Item) → Int → Int → List (S_Item) → Option (Bool)
  | 0, _, _, _, _, _, _, _ => none
  | k + 1, x5, x1173000, x1173001, x1173002, x1174000, x1174001, x1174002 => if x5 < (x1173002.length : Int) then (if 0 ≤ x5 then (if x5 < (x1174002.length : Int) then (if (!(((rd_Item x1173002 x5).f0) == ((rd_Item x1174002 x5).f0)) || (!((((rd_Item x1173002 x5).f1).toList) == (((rd_Item x1174002 x5).f1).toList)) || (!((((rd_Item x1173002 x5).f2).toList) == (((rd_Item x1174002 x5).f2).toList)) || (!(((rd_Item x1173002 x5).f3) == ((rd_Item x1174002 x5).f3)) || (!(((rd_Item x1173002 x5).f4) == ((rd_Item x1174002 x5).f4))))))) = true then (some false) else (laws_sameRow.l0 k (wrap64 (x5 + 1)) x1173000 x1173001 x1173002 x1174000 x1174001 x1174002)) else (none)) else (none)) else (some true)
end
def laws_sameRow.f (k : Nat) (a0_0 : Int) (a0_1 : Int) (l0_2 : List (S_Item)) (a1_0 : Int) (a1_1 : Int) (l1_2 : List (S_Item)) : Option (Bool) := if a0_0 = a1_0 then (if a0_1 = a1_1 then (laws_sameRow.j0 k ((l0_2.length : Int) != (l1_2.length : Int)) a0_0 a0_1 l0_2 a1_0 a1_1 l1_2) else (laws_sameRow.j0 k true a0_0 a0_1 l0_2 a1_0 a1_1 l1_2)) else (laws_sameRow.j0 k true a0_0 a0_1 l0_2 a1_0 a1_1 l1_2)
theorem laws_sameRow.mono_l : ∀ k, (∀ y0 y1 y2 y3 y4 y5 y6, LeO (laws_sameRow.j0 k y0 y1 y2 y3 y4 y5 y6) (laws_sameRow.j0 (k + 1) y0 y1 y2 y3 y4 y5 y6)) ∧ (∀ y0 y1 y2 y3 y4 y5 y6, LeO (laws_sameRow.l0 k y0 y1 y2 y3 y4 y5 y6) (laws_sameRow.l0 (k + 1) y0 y1 y2 y3 y4 y5 y6))
  | 0 => ⟨fun _ _ _ _ _ _ _ r h => by simp [laws_sameRow.j0] at h, fun _ _ _ _ _ _ _ r h => by simp [laws_sameRow.l0] at h⟩
  | k + 1 => by
    obtain ⟨ih0, ih1⟩ := laws_sameRow.mono_l k
    refine ⟨?_, ?_⟩
    · intro y0 y1 y2 y3 y4 y5 y6
      unfold laws_sameRow.j0
      exact qfh0_
    · intro y0 y1 y2 y3 y4 y5 y6
      unfold laws_sameRow.l0
      exact qfh0_
theorem laws_sameRow.mono : ∀ a0 a1 a2 a3 a4 a5 k, LeO (laws_sameRow.f k a0 a1 a2 a3 a4 a5) (laws_sameRow.f (k + 1) a0 a1 a2 a3 a4 a5) := by
  intro a0 a1 a2 a3 a4 a5 k
  obtain ⟨ih0, ih1⟩ := laws_sameRow.mono_l k
  unfold laws_sameRow.f
  exact qfh0_
set_option maxHeartbeats 8000000 in
set_option maxRecDepth 100000 in
theorem laws_sameRow.calls (k : Nat) (a0_0 : Int) (a0_1 : Int) (A0_2 : Option Addr) (c0_2 : Nat) (l0_2 : List (S_Item)) (a1_0 : Int) (a1_1 : Int) (A1_2 : Option Addr) (c1_2 : Nat) (l1_2 : List (S_Item)) (r : Bool) (w : World) (hr0_2 : Kd.C k_Item w A0_2 l0_2.length l0_2) (hc0_2 : l0_2.length ≤ c0_2) (hr1_2 : Kd.C k_Item w A1_2 l1_2.length l1_2) (hc1_2 : l1_2.length ≤ c1_2) (h : laws_sameRow.f k a0_0 a0_1 l0_2 a1_0 a1_1 l1_2 = some r) :
    Calls Try.prog 12 #[.agg #[.int .i64 a0_0, .int .i64 a0_1, .slice A0_2 l0_2.length c0_2], .agg #[.int .i64 a1_0, .int .i64 a1_1, .slice A1_2 l1_2.length c1_2]] w fun e w' => e = .returned (.bool r) ∧ Below w.heap.size w w' := by
  have hu26 := Try.underlying26
  have hu33 := Try.underlying33
  have HR0_2 := Aside0.mk hr0_2
  have HC0_2 := Aside0.mk hc0_2
  clear hr0_2 hc0_2
  have HR1_2 := Aside0.mk hr1_2
  have HC1_2 := Aside0.mk hc1_2
  clear hr1_2 hc1_2
  have HB := Aside0.mk (Below.refl w.heap.size w)
  have H : (if a0_0 = a1_0 then (if a0_1 = a1_1 then (laws_sameRow.j0 k ((l0_2.length : Int) != (l1_2.length : Int)) a0_0 a0_1 l0_2 a1_0 a1_1 l1_2) else (laws_sameRow.j0 k true a0_0 a0_1 l0_2 a1_0 a1_1 l1_2)) else (laws_sameRow.j0 k true a0_0 a0_1 l0_2 a1_0 a1_1 l1_2)) = some r := h
  clear h
  have HC3 := Aside0.mk H
  clear H
  go_enter Try.func12, Try.ntmps12
  go_upto_region 1 with (first | (go_quiet (fail)) | ((with_reducible refine gate_dst (N := 2) rfl ?_); (try (refine gate_guard (by rfl) ?_; dsimp only)); refine box_event ?hg (N := 2) ?hd (cs := #[.int .i64 a0_0, .int .i64 a0_1, .slice A0_2 l0_2.length c0_2]) (t := 26) ?hr ?_; (case hd => rfl); (case hg => rfl); (case hr => first | (go_simp; done) | (go_simp; rfl)); intro gb1172 hg w4 hbox hb; have BK1172 := Aside0.mk (hbox); have GW1172 := Aside0.mk ((by rw [hg]; exact (below_size (qf4_)) : w.heap.size ≤ gb1172)); have GE1172 := Aside0.mk ((by rw [hg]; exact (below_size (qf4_)) : w.heap.size ≤ gb1172)); replace HB := Aside0.mk (below_step (qf4_) hb); clear hb hbox hg) | ((with_reducible refine gate_dst (N := 3) rfl ?_); (try (refine gate_guard (by rfl) ?_; dsimp only)); refine box_event ?hg (N := 3) ?hd (cs := #[.int .i64 a1_0, .int .i64 a1_1, .slice A1_2 l1_2.length c1_2]) (t := 26) ?hr ?_; (case hd => rfl); (case hg => rfl); (case hr => first | (go_simp; done) | (go_simp; rfl)); intro gb1173 hg w5 hbox hb; have BK1173 := Aside0.mk (hbox); have GW1173 := Aside0.mk ((by rw [hg]; exact (below_size (qf2_)) : w.heap.size ≤ gb1173)); have GE1173 := Aside0.mk ((by rw [hg]; exact (below_size (qf2_)) : w.heap.size ≤ gb1173)); have NB1172_1173 := Aside0.mk ((by rw [hg]; exact Nat.ne_of_lt (blk_lt (g := gb1172) (o := .cells #[.int .i64 a0_0, .int .i64 a0_1, .slice A0_2 l0_2.length c0_2] 26 (0, 0)) (bq_ BK1172.out)) : gb1172 ≠ gb1173)); have NB1173_1172 := Aside0.mk ((by rw [hg]; exact Nat.ne_of_gt (blk_lt (g := gb1172) (o := .cells #[.int .i64 a0_0, .int .i64 a0_1, .slice A0_2 l0_2.length c0_2] 26 (0, 0)) (bq_ BK1172.out)) : gb1173 ≠ gb1172)); replace BK1172 := Aside0.mk (blk_below (g := gb1172) (o := .cells #[.int .i64 a0_0, .int .i64 a0_1, .slice A0_2 l0_2.length c0_2] 26 (0, 0)) (bq_ BK1172.out) hb); replace HB := Aside0.mk (below_step (qf2_) hb); clear hb hbox hg))
  (try simp only [Act.put, List.setIfInBounds_toArray, List.set_cons_zero, List.set_cons_succ])
  go_cut [26] (fun v26 wc => ∃ (kq : Nat) (x26_2 : Bool), v26 = .bool x26_2 ∧ Aside0 (laws_sameRow.j0 kq x26_2 a0_0 a0_1 l0_2 a1_0 a1_1 l1_2 = some r) ∧ Aside0 (kq ≤ k) ∧ Aside0 (wc.heap[gb1172]? = some (.cells #[.int .i64 a0_0, .int .i64 a0_1, (.slice A0_2 l0_2.length c0_2)] 26 (0, 0))) ∧ Aside0 (wc.heap[gb1173]? = some (.cells #[.int .i64 a1_0, .int .i64 a1_1, (.slice A1_2 l1_2.length c1_2)] 26 (0, 0))) ∧ Aside0 (Below w.heap.size w wc))
  case first =>
    have H := HC3.out
    clear HC3
    by_cases c6 : a0_0 = a1_0
    · rw [if_pos c6] at H
      have c6b0 : (a0_0 == a1_0) = true := beq_iff_eq.mpr c6
      have c6b1 : (a0_0 != a1_0) = false := bne_eq_false_iff_eq.mpr c6
      clear c6
      (first | rw [c6b0] | (simp only [i64_w, i32_w]; rw [c6b0]) | rw [c6b4] | rw [c6b3] | skip)
      by_cases c7 : a0_1 = a1_1
      · rw [if_pos c7] at H
        have c7b0 : (a0_1 == a1_1) = true := beq_iff_eq.mpr c7
        have c7b1 : (a0_1 != a1_1) = false := bne_eq_false_iff_eq.mpr c7
        clear c7
        have H' := Aside0.mk H
        clear H
        have hnb8 := NB1172_1173.out
        have hnc8 := NB1173_1172.out
        have hcz9_0 : w5.cell? ⟨gb1172, 0, none⟩ = some (.int .i64 a0_0) := bc_ BK1172 0
        have hcz9_1 : w5.cell? ⟨gb1172, 1, none⟩ = some (.int .i64 a0_1) := bc_ BK1172 1
        have hcz9_2 : w5.cell? ⟨gb1172, 2, none⟩ = some (.slice A0_2 l0_2.length c0_2) := bc_ BK1172 2
        have hfz9_0 := blk_frozen BK1172.out 0
        have hfz9_1 := blk_frozen BK1172.out 1
        have hfz9_2 := blk_frozen BK1172.out 2
        have hcz10_0 : w5.cell? ⟨gb1173, 0, none⟩ = some (.int .i64 a1_0) := bc_ BK1173 0
        have hcz10_1 : w5.cell? ⟨gb1173, 1, none⟩ = some (.int .i64 a1_1) := bc_ BK1173 1
        have hcz10_2 : w5.cell? ⟨gb1173, 2, none⟩ = some (.slice A1_2 l1_2.length c1_2) := bc_ BK1173 2
        have hfz10_0 := blk_frozen BK1173.out 0
        have hfz10_1 := blk_frozen BK1173.out 1
        have hfz10_2 := blk_frozen BK1173.out 2
        go_wp2
        repeat (go_quiet (fail); try go_wp2)
        go_meet
        case rel => exact ⟨_, (((l0_2.length : Int) != (l1_2.length : Int))), (qf1_), H', ⟨qf7_⟩, ⟨bq_ BK1172.out⟩, ⟨bq_ BK1173.out⟩, ⟨qf0_⟩⟩
      · rw [if_neg c7] at H
        have c7b0 : (a0_1 == a1_1) = false := beq_eq_false_iff_ne.mpr c7
        have c7b1 : (a0_1 != a1_1) = true := bne_iff_ne.mpr c7
        have H' := Aside0.mk H
        clear H
        have hnb11 := NB1172_1173.out
        have hnc11 := NB1173_1172.out
        have hcz12_0 : w5.cell? ⟨gb1172, 0, none⟩ = some (.int .i64 a0_0) := bc_ BK1172 0
        have hcz12_1 : w5.cell? ⟨gb1172, 1, none⟩ = some (.int .i64 a0_1) := bc_ BK1172 1
        have hcz12_2 : w5.cell? ⟨gb1172, 2, none⟩ = some (.slice A0_2 l0_2.length c0_2) := bc_ BK1172 2
        have hfz12_0 := blk_frozen BK1172.out 0
        have hfz12_1 := blk_frozen BK1172.out 1
        have hfz12_2 := blk_frozen BK1172.out 2
        have hcz13_0 : w5.cell? ⟨gb1173, 0, none⟩ = some (.int .i64 a1_0) := bc_ BK1173 0
        have hcz13_1 : w5.cell? ⟨gb1173, 1, none⟩ = some (.int .i64 a1_1) := bc_ BK1173 1
        have hcz13_2 : w5.cell? ⟨gb1173, 2, none⟩ = some (.slice A1_2 l1_2.length c1_2) := bc_ BK1173 2
        have hfz13_0 := blk_frozen BK1173.out 0
        have hfz13_1 := blk_frozen BK1173.out 1
        have hfz13_2 := blk_frozen BK1173.out 2
        go_wp2
        repeat (go_quiet (fail); try go_wp2)
        go_meet
        case rel => exact ⟨_, (true), (qf1_), H', ⟨qf7_⟩, ⟨bq_ BK1172.out⟩, ⟨bq_ BK1173.out⟩, ⟨qf0_⟩⟩
    · rw [if_neg c6] at H
      have c6b0 : (a0_0 == a1_0) = false := beq_eq_false_iff_ne.mpr c6
      have c6b1 : (a0_0 != a1_0) = true := bne_iff_ne.mpr c6
      (first | rw [c6b0] | (simp only [i64_w, i32_w]; rw [c6b0]) | rw [c6b4] | rw [c6b3] | skip)
      have H' := Aside0.mk H
      clear H
      have hnb14 := NB1172_1173.out
      have hnc14 := NB1173_1172.out
      have hcz15_0 : w5.cell? ⟨gb1172, 0, none⟩ = some (.int .i64 a0_0) := bc_ BK1172 0
      have hcz15_1 : w5.cell? ⟨gb1172, 1, none⟩ = some (.int .i64 a0_1) := bc_ BK1172 1
      have hcz15_2 : w5.cell? ⟨gb1172, 2, none⟩ = some (.slice A0_2 l0_2.length c0_2) := bc_ BK1172 2
      have hfz15_0 := blk_frozen BK1172.out 0
      have hfz15_1 := blk_frozen BK1172.out 1
      have hfz15_2 := blk_frozen BK1172.out 2
      have hcz16_0 : w5.cell? ⟨gb1173, 0, none⟩ = some (.int .i64 a1_0) := bc_ BK1173 0
      have hcz16_1 : w5.cell? ⟨gb1173, 1, none⟩ = some (.int .i64 a1_1) := bc_ BK1173 1
      have hcz16_2 : w5.cell? ⟨gb1173, 2, none⟩ = some (.slice A1_2 l1_2.length c1_2) := bc_ BK1173 2
      have hfz16_0 := blk_frozen BK1173.out 0
      have hfz16_1 := blk_frozen BK1173.out 1
      have hfz16_2 := blk_frozen BK1173.out 2
      go_wp2
      repeat (go_quiet (fail); try go_wp2)
      go_meet
      case rel => exact ⟨_, (true), (qf1_), H', ⟨qf7_⟩, ⟨bq_ BK1172.out⟩, ⟨bq_ BK1173.out⟩, ⟨qf0_⟩⟩
  case rest =>
    clear HC3
    try clear c1
    try clear p2
    try clear c6
    try clear c6b0
    try clear c6b1
    try clear c7
    try clear c7b0
    try clear c7b1
    try clear c8
    try clear c11
    try clear c12
    try clear c14
    try clear hcz10_0
    try clear hcz10_1
    try clear hcz10_2
    try clear hcz12_0
    try clear hcz12_1
    try clear hcz12_2
    try clear hcz13_0
    try clear hcz13_1
    try clear hcz13_2
    try clear hcz15_0
    try clear hcz15_1
    try clear hcz15_2
    try clear hcz16_0
    try clear hcz16_1
    try clear hcz16_2
    try clear hcz9_0
    try clear hcz9_1
    try clear hcz9_2
    try clear hfz10_0
    try clear hfz10_1
    try clear hfz10_2
    try clear hfz12_0
    try clear hfz12_1
    try clear hfz12_2
    try clear hfz13_0
    try clear hfz13_1
    try clear hfz13_2
    try clear hfz15_0
    try clear hfz15_1
    try clear hfz15_2
    try clear hfz16_0
    try clear hfz16_1
    try clear hfz16_2
    try clear hfz9_0
    try clear hfz9_1
    try clear hfz9_2
    obtain ⟨kq, x26_2, rfl, HA, HJ2, BK1172, BK1173, HB⟩ := hcut
    cases kq with
    | zero => exact absurd HA.out (by simp [laws_sameRow.j0])
    | succ kj2 =>
      have H := HA.out
      clear HA
      simp only [laws_sameRow.j0] at H
      by_cases c17 : x26_2 = true
      · subst c17
        have H1 : (some false) = some r := by rw [if_pos rfl] at H; exact H
        clear H
        have H := H1
        clear H1
        obtain rfl := Option.some.inj H
        go_wp2
        repeat (go_quiet (fail); try go_wp2)
        go_ret
        exact ⟨qf6_, qf0_⟩
      · replace c17 := Bool.eq_false_iff.mpr c17
        subst c17
        have H1 : (laws_sameRow.l0 kj2 0 a0_0 a0_1 l0_2 a1_0 a1_1 l1_2) = some r := by rw [if_neg (show ¬ (false = true) by decide)] at H; exact H
        clear H
        have H := H1
        clear H1
        have H' := Aside0.mk H
        clear H
        go_wp2
        repeat (go_quiet (fail); try go_wp2)
        go_loopg [5] kj2 (fun kq v5 w' => ∃ (x5_2 : Int), v5 = .int .i64 x5_2 ∧ Aside0 (laws_sameRow.l0 kq x5_2 a0_0 a0_1 l0_2 a1_0 a1_1 l1_2 = some r) ∧ Aside0 (kq ≤ kj2) ∧ Aside0 (w'.heap[gb1172]? = some (.cells #[.int .i64 a0_0, .int .i64 a0_1, (.slice A0_2 l0_2.length c0_2)] 26 (0, 0))) ∧ Aside0 (w'.heap[gb1173]? = some (.cells #[.int .i64 a1_0, .int .i64 a1_1, (.slice A1_2 l1_2.length c1_2)] 26 (0, 0))) ∧ Aside0 (Below w.heap.size w w'))
        case atStart => exact ⟨(0), (qf1_), H', ⟨Nat.le_refl _⟩, ⟨bq_ BK1172.out⟩, ⟨bq_ BK1173.out⟩, ⟨qf0_⟩⟩
        case round =>
          clear H'
          try clear c1
          try clear p2
          try clear c6
          try clear c6b0
          try clear c6b1
          try clear c7
          try clear c7b0
          try clear c7b1
          try clear c8
          try clear c11
          try clear c12
          try clear c14
          try clear c17
          try clear hcz10_0
          try clear hcz10_1
          try clear hcz10_2
          try clear hcz12_0
          try clear hcz12_1
          try clear hcz12_2
          try clear hcz13_0
          try clear hcz13_1
          try clear hcz13_2
          try clear hcz15_0
          try clear hcz15_1
          try clear hcz15_2
          try clear hcz16_0
          try clear hcz16_1
          try clear hcz16_2
          try clear hcz9_0
          try clear hcz9_1
          try clear hcz9_2
          try clear hfz10_0
          try clear hfz10_1
          try clear hfz10_2
          try clear hfz12_0
          try clear hfz12_1
          try clear hfz12_2
          try clear hfz13_0
          try clear hfz13_1
          try clear hfz13_2
          try clear hfz15_0
          try clear hfz15_1
          try clear hfz15_2
          try clear hfz16_0
          try clear hfz16_1
          try clear hfz16_2
          try clear hfz9_0
          try clear hfz9_1
          try clear hfz9_2
          try clear p2
          obtain ⟨x5_2, rfl, HA, HK2, BK1172, BK1173, HB⟩ := hrel
          cases gk with
          | zero => exact absurd HA.out (by simp [laws_sameRow.l0])
          | succ k2 =>
            have H := HA.out
            clear HA
            simp only [laws_sameRow.l0] at H
            by_cases c18 : x5_2 < (l0_2.length : Int)
            · rw [if_pos c18] at H
              have c18b0 : decide (x5_2 < (l0_2.length : Int)) = true := decide_eq_true c18
              clear c18
              by_cases c19 : 0 ≤ x5_2
              · rw [if_pos c19] at H
                have c19b0 : decide (0 ≤ x5_2) = true := decide_eq_true c19
                clear c19
                by_cases c20 : x5_2 < (l1_2.length : Int)
                · rw [if_pos c20] at H
                  have c20b0 : decide (x5_2 < (l1_2.length : Int)) = true := decide_eq_true c20
                  clear c20
                  by_cases c21 : (!(((rd_Item l0_2 x5_2).f0) == ((rd_Item l1_2 x5_2).f0)) || (!((((rd_Item l0_2 x5_2).f1).toList) == (((rd_Item l1_2 x5_2).f1).toList)) || (!((((rd_Item l0_2 x5_2).f2).toList) == (((rd_Item l1_2 x5_2).f2).toList)) || (!(((rd_Item l0_2 x5_2).f3) == ((rd_Item l1_2 x5_2).f3)) || (!(((rd_Item l0_2 x5_2).f4) == ((rd_Item l1_2 x5_2).f4))))))) = true
                  · rw [if_pos c21] at H
                    have c21b0 : (!(((rd_Item l0_2 x5_2).f0) == ((rd_Item l1_2 x5_2).f0)) || (!((((rd_Item l0_2 x5_2).f1).toList) == (((rd_Item l1_2 x5_2).f1).toList)) || (!((((rd_Item l0_2 x5_2).f2).toList) == (((rd_Item l1_2 x5_2).f2).toList)) || (!(((rd_Item l0_2 x5_2).f3) == ((rd_Item l1_2 x5_2).f3)) || (!(((rd_Item l0_2 x5_2).f4) == ((rd_Item l1_2 x5_2).f4))))))) = true := c21
                    clear c21
                    obtain rfl := Option.some.inj H
                    have hnb22 := NB1172_1173.out
                    have hnc22 := NB1173_1172.out
                    have hcz23_0 : wr.cell? ⟨gb1172, 0, none⟩ = some (.int .i64 a0_0) := bc_ BK1172 0
                    have hcz23_1 : wr.cell? ⟨gb1172, 1, none⟩ = some (.int .i64 a0_1) := bc_ BK1172 1
                    have hcz23_2 : wr.cell? ⟨gb1172, 2, none⟩ = some (.slice A0_2 l0_2.length c0_2) := bc_ BK1172 2
                    have hfz23_0 := blk_frozen BK1172.out 0
                    have hfz23_1 := blk_frozen BK1172.out 1
                    have hfz23_2 := blk_frozen BK1172.out 2
                    have p1174 : 0 ≤ (x5_2 : Int) := of_decide_eq_true dt_
                    have q1174 : x5_2 < (l0_2.length : Int) := of_decide_eq_true dt_
                    obtain ⟨ad1174, e1174, hx1174_0, hx1174_1, hx1174_2, hx1174_3, hx1174_4⟩ := at_Item HR0_2.out x5_2 p1174 q1174
                    cases e1174
                    replace hx1174_0 := hc_ HB hx1174_0
                    replace hx1174_1 := hc_ HB hx1174_1
                    replace hx1174_2 := hc_ HB hx1174_2
                    replace hx1174_3 := hc_ HB hx1174_3
                    replace hx1174_4 := hc_ HB hx1174_4
                    replace p1174 := eq_true p1174
                    replace q1174 := eq_true q1174
                    have hcz24_0 : wr.cell? ⟨gb1173, 0, none⟩ = some (.int .i64 a1_0) := bc_ BK1173 0
                    have hcz24_1 : wr.cell? ⟨gb1173, 1, none⟩ = some (.int .i64 a1_1) := bc_ BK1173 1
                    have hcz24_2 : wr.cell? ⟨gb1173, 2, none⟩ = some (.slice A1_2 l1_2.length c1_2) := bc_ BK1173 2
                    have hfz24_0 := blk_frozen BK1173.out 0
                    have hfz24_1 := blk_frozen BK1173.out 1
                    have hfz24_2 := blk_frozen BK1173.out 2
                    have p1175 : 0 ≤ (x5_2 : Int) := of_decide_eq_true dt_
                    have q1175 : x5_2 < (l1_2.length : Int) := of_decide_eq_true dt_
                    obtain ⟨ad1175, e1175, hx1175_0, hx1175_1, hx1175_2, hx1175_3, hx1175_4⟩ := at_Item HR1_2.out x5_2 p1175 q1175
                    cases e1175
                    replace hx1175_0 := hc_ HB hx1175_0
                    replace hx1175_1 := hc_ HB hx1175_1
                    replace hx1175_2 := hc_ HB hx1175_2
                    replace hx1175_3 := hc_ HB hx1175_3
                    replace hx1175_4 := hc_ HB hx1175_4
                    replace p1175 := eq_true p1175
                    replace q1175 := eq_true q1175
                    go_wp2
                    repeat (go_quiet (fail); try go_wp2)
                    go_ret
                    exact ⟨qf6_, qf0_⟩
                  · rw [if_neg c21] at H
                    have c21b0 : (!(((rd_Item l0_2 x5_2).f0) == ((rd_Item l1_2 x5_2).f0)) || (!((((rd_Item l0_2 x5_2).f1).toList) == (((rd_Item l1_2 x5_2).f1).toList)) || (!((((rd_Item l0_2 x5_2).f2).toList) == (((rd_Item l1_2 x5_2).f2).toList)) || (!(((rd_Item l0_2 x5_2).f3) == ((rd_Item l1_2 x5_2).f3)) || (!(((rd_Item l0_2 x5_2).f4) == ((rd_Item l1_2 x5_2).f4))))))) = false := by simpa using c21
                    clear c21
                    have H' := Aside0.mk H
                    clear H
                    have hnb25 := NB1172_1173.out
                    have hnc25 := NB1173_1172.out
                    have hcz26_0 : wr.cell? ⟨gb1172, 0, none⟩ = some (.int .i64 a0_0) := bc_ BK1172 0
                    have hcz26_1 : wr.cell? ⟨gb1172, 1, none⟩ = some (.int .i64 a0_1) := bc_ BK1172 1
                    have hcz26_2 : wr.cell? ⟨gb1172, 2, none⟩ = some (.slice A0_2 l0_2.length c0_2) := bc_ BK1172 2
                    have hfz26_0 := blk_frozen BK1172.out 0
                    have hfz26_1 := blk_frozen BK1172.out 1
                    have hfz26_2 := blk_frozen BK1172.out 2
                    have p1174 : 0 ≤ (x5_2 : Int) := of_decide_eq_true dt_
                    have q1174 : x5_2 < (l0_2.length : Int) := of_decide_eq_true dt_
                    obtain ⟨ad1174, e1174, hx1174_0, hx1174_1, hx1174_2, hx1174_3, hx1174_4⟩ := at_Item HR0_2.out x5_2 p1174 q1174
                    cases e1174
                    replace hx1174_0 := hc_ HB hx1174_0
                    replace hx1174_1 := hc_ HB hx1174_1
                    replace hx1174_2 := hc_ HB hx1174_2
                    replace hx1174_3 := hc_ HB hx1174_3
                    replace hx1174_4 := hc_ HB hx1174_4
                    replace p1174 := eq_true p1174
                    replace q1174 := eq_true q1174
                    have hcz27_0 : wr.cell? ⟨gb1173, 0, none⟩ = some (.int .i64 a1_0) := bc_ BK1173 0
                    have hcz27_1 : wr.cell? ⟨gb1173, 1, none⟩ = some (.int .i64 a1_1) := bc_ BK1173 1
                    have hcz27_2 : wr.cell? ⟨gb1173, 2, none⟩ = some (.slice A1_2 l1_2.length c1_2) := bc_ BK1173 2
                    have hfz27_0 := blk_frozen BK1173.out 0
                    have hfz27_1 := blk_frozen BK1173.out 1
                    have hfz27_2 := blk_frozen BK1173.out 2
                    have p1175 : 0 ≤ (x5_2 : Int) := of_decide_eq_true dt_
                    have q1175 : x5_2 < (l1_2.length : Int) := of_decide_eq_true dt_
                    obtain ⟨ad1175, e1175, hx1175_0, hx1175_1, hx1175_2, hx1175_3, hx1175_4⟩ := at_Item HR1_2.out x5_2 p1175 q1175
                    cases e1175
                    replace hx1175_0 := hc_ HB hx1175_0
                    replace hx1175_1 := hc_ HB hx1175_1
                    replace hx1175_2 := hc_ HB hx1175_2
                    replace hx1175_3 := hc_ HB hx1175_3
                    replace hx1175_4 := hc_ HB hx1175_4
                    replace p1175 := eq_true p1175
                    replace q1175 := eq_true q1175
                    go_wp2
                    repeat (go_quiet (fail); try go_wp2)
                    go_roundg k2
                    case measure => have := HJ2.out; have := HK2.out; omega
                    case rel => exact ⟨(wrap64 (x5_2 + 1)), (qf1_), H', ⟨by have := HJ2.out; have := HK2.out; omega⟩, ⟨bq_ BK1172.out⟩, ⟨bq_ BK1173.out⟩, ⟨qf0_⟩⟩
                · rw [if_neg c20] at H
                  exact absurd H (by simp)
              · rw [if_neg c19] at H
                exact absurd H (by simp)
            · rw [if_neg c18] at H
              have c18b0 : decide (x5_2 < (l0_2.length : Int)) = false := decide_eq_false c18
              clear c18
              obtain rfl := Option.some.inj H
              have hnb28 := NB1172_1173.out
              have hnc28 := NB1173_1172.out
              have hcz29_0 : wr.cell? ⟨gb1172, 0, none⟩ = some (.int .i64 a0_0) := bc_ BK1172 0
              have hcz29_1 : wr.cell? ⟨gb1172, 1, none⟩ = some (.int .i64 a0_1) := bc_ BK1172 1
              have hcz29_2 : wr.cell? ⟨gb1172, 2, none⟩ = some (.slice A0_2 l0_2.length c0_2) := bc_ BK1172 2
              have hfz29_0 := blk_frozen BK1172.out 0
              have hfz29_1 := blk_frozen BK1172.out 1
              have hfz29_2 := blk_frozen BK1172.out 2
              go_wp2
              repeat (go_quiet (fail); try go_wp2)
              go_ret
              exact ⟨qf6_, qf0_⟩
end
/-! ### slices_DeleteFunc_RowTrim: function 54 -/
-- IMPORT Derived.Shelf.Abstract
-- IMPORT Derived.Lib.SliceRun
def hitT (n bk : Int) (x : S_Item) : Bool := wrap64 (Int.tdiv x.f0 n) == bk
/-- the place of the first item of a block, from i on; or -1 -/
def hitAt (n bk : Int) (l : List S_Item) : Nat → Nat → Int
  | 0, _ => -1
  | d + 1, i => if hitT n bk (rd_Item l (i : Int)) = true then (i : Int) else hitAt n bk l d (i + 1)
set_option maxHeartbeats 8000000 in
theorem trimHit (gl gb : Nat) (n bk : Int) (hn : 1 ≤ n) (y0 : Int) (y1 y2 : ByteArray) (y3 y4 : Int) (W : World) (h1 : W.heap[gl]? = some (.cells #[.int .i64 n] 3 (0, 0))) (h2 : W.heap[gb]? = some (.cells #[.int .i64 bk] 3 (0, 0))) :
    Calls Try.prog 55 #[.agg #[.int .i64 y0, .string y1, .string y2, .int .i64 y3, .int .i64 y4], .pointer (some ⟨gl, 0, none⟩), .pointer (some ⟨gb, 0, none⟩)] W fun e w' => e = .returned (.bool (wrap64 (Int.tdiv y0 n) == bk)) ∧ Below W.heap.size W w' := by
  have hu := Try.underlying33
  have c1 : W.cell? ⟨gl, 0, none⟩ = some (.int .i64 n) := (blk_cell h1 0).trans rfl
  have c2 : W.cell? ⟨gb, 0, none⟩ = some (.int .i64 bk) := (blk_cell h2 0).trans rfl
  have l1 : gl < W.heap.size := blk_lt h1
  have l2 : gb < W.heap.size := blk_lt h2
  have e1 : gl ≠ W.heap.size := by omega
  have e2 : gb ≠ W.heap.size := by omega
  have hz : ¬ n = 0 := by omega
  have hz2 : (n == 0) = false := by simp [hz]
  clear h1 h2
  go_enter Try.func55, Try.ntmps55
  go_wp2
  go_quiet (fail)
  go_wp2
  go_ret
  exact ⟨qf1_, by repeat (first | exact Below.refl _ _ | apply below_alloc | apply pw_below_drewN | apply below_drew1)⟩
set_option maxHeartbeats 8000000 in
set_option maxRecDepth 100000 in
theorem trimIdx (gl gb : Nat) (n bk : Int) (hn1 : 1 ≤ n) (A : Option Addr) (c : Nat) (l : List S_Item) (w : World) (h1 : w.heap[gl]? = some (.cells #[.int .i64 n] 3 (0, 0))) (h2 : w.heap[gb]? = some (.cells #[.int .i64 bk] 3 (0, 0))) (hr : Kd.C k_Item w A l.length l) :
    Calls Try.prog 99 #[.slice A l.length c, .func (.func 55) #[] #[.pointer (some ⟨gl, 0, none⟩), .pointer (some ⟨gb, 0, none⟩)]] w fun e w' => e = .returned (.int .i64 (hitAt n bk l l.length 0)) ∧ Below w.heap.size w w' := by
  have eC : ∀ args w, (callFunc 55 args).run Try.prog w = .ok (.enter 55 args) w := enters_of Try.func55 (by kernel_rfl) rfl
  have hu := Try.underlying33
  have HN := Aside0.mk (Kd.C_max hr)
  have HX := Aside0.mk h1
  have HY := Aside0.mk h2
  have HR := Aside0.mk hr
  have HL := Aside0.mk hn1
  clear h1 h2 hr hn1
  go_enter Try.func99, Try.ntmps99
  go_wp2
  go_loopg [5, 8] l.length (fun gg _ s8 wr => ∃ kk : Nat, kk ≤ l.length ∧ l.length - kk ≤ gg ∧ s8 = .int .i64 kk ∧ Aside0 (Below w.heap.size w wr) ∧ Aside0 (hitAt n bk l l.length 0 = hitAt n bk l (l.length - kk) kk))
  case atStart => exact ⟨0, Nat.zero_le _, by omega, rfl, ⟨Below.refl _ w⟩, ⟨rfl⟩⟩
  case round =>
    obtain ⟨kk, hkk, hg, rfl, BW, AX⟩ := hrel
    have hn := HN.out
    by_cases hlt : kk < l.length
    · have hltz : (kk : Int) < (l.length : Int) := by omega
      obtain ⟨ad, rfl, h0, h1, h2, h3, h4⟩ := at_Item HR.out (kk : Int) (by omega) hltz
      replace h0 := pw_cell_below BW.out h0
      replace h1 := pw_cell_below BW.out h1
      replace h2 := pw_cell_below BW.out h2
      replace h3 := pw_cell_below BW.out h3
      replace h4 := pw_cell_below BW.out h4
      simp only [Int.toNat_natCast] at h0 h1 h2 h3 h4
      have hcall := trimHit gl gb n bk HL.out (rd_Item l (kk : Int)).f0 (rd_Item l (kk : Int)).f1 (rd_Item l (kk : Int)).f2 (rd_Item l (kk : Int)).f3 (rd_Item l (kk : Int)).f4 wr (blk_below HX.out BW.out) (blk_below HY.out BW.out)
      cases hq : (wrap64 (Int.tdiv (rd_Item l (kk : Int)).f0 n) == bk) with
      | true =>
        rw [hq] at hcall
        have E : Aside0 (hitAt n bk l l.length 0 = (kk : Int)) := ⟨by
          rw [AX.out, show l.length - kk = (l.length - kk - 1) + 1 by omega]
          unfold hitAt
          exact if_pos hq⟩
        clear AX hq HX HY
        go_wp2_with (go_at_fn 55; refine hcall.mono ?_; rintro e w' ⟨rfl, hb'⟩)
        go_ret
        exact ⟨by rw [E.out]; rfl, below_step BW.out hb'⟩
      | false =>
        rw [hq] at hcall
        have e : hitAt n bk l (l.length - kk) kk = hitAt n bk l (l.length - (kk + 1)) (kk + 1) := by
          rw [show l.length - kk = (l.length - (kk + 1)) + 1 by omega]
          show (if _ then _ else _) = _
          rw [if_neg (by unfold hitT; rw [hq]; simp)]
        have E := Aside0.mk (AX.out.trans e)
        clear e AX hq
        go_wp2_with (go_at_fn 55; refine hcall.mono ?_; rintro e w' ⟨rfl, hb'⟩)
        go_roundg (l.length - (kk + 1))
        case measure => omega
        case rel => exact ⟨kk + 1, by omega, by omega, by go_num, ⟨below_step BW.out hb'⟩, E⟩
    · have hltz : ¬ (kk : Int) < (l.length : Int) := by omega
      have E : Aside0 (hitAt n bk l l.length 0 = -1) := ⟨by
        rw [AX.out, show l.length - kk = 0 by omega]
        rfl⟩
      clear AX
      go_wp2
      go_ret
      exact ⟨by rw [E.out]; rfl, BW.out⟩
theorem hitAt_from (n bk : Int) (l : List S_Item) : ∀ (d i : Nat), i + d = l.length → (hitAt n bk l d i = -1 ∧ ∀ x ∈ l.drop i, hitT n bk x = false) ∨ ∃ k, i ≤ k ∧ k < l.length ∧ hitAt n bk l d i = (k : Int) ∧ hitT n bk (rd_Item l (k : Int)) = true ∧ ∀ x ∈ (l.take k).drop i, hitT n bk x = false := by
  intro d
  induction d with
  | zero => intro i h; exact .inl ⟨rfl, fun x hx => by rw [List.drop_eq_nil_of_le (by omega)] at hx; cases hx⟩
  | succ d ih =>
    intro i h
    have hd : l.drop i = rd_Item l (i : Int) :: l.drop (i + 1) := by
      rw [List.drop_eq_getElem_cons (by omega : i < l.length)]
      simp [rd_Item, List.getD_eq_getElem?_getD, List.getElem?_eq_getElem (by omega : i < l.length)]
    unfold hitAt
    cases q : hitT n bk (rd_Item l (i : Int)) with
    | true => exact .inr ⟨i, Nat.le_refl _, by omega, if_pos rfl, q, fun x hx => by rw [List.drop_eq_nil_of_le (by rw [List.length_take]; omega)] at hx; cases hx⟩
    | false =>
      rw [if_neg (by simp)]
      rcases ih (i + 1) (by omega) with ⟨e, ha⟩ | ⟨k, h1, h2, e, ht, ha⟩
      · refine .inl ⟨e, fun x hx => ?_⟩
        rw [hd] at hx
        rcases List.mem_cons.1 hx with rfl | hx
        · exact q
        · exact ha x hx
      · refine .inr ⟨k, by omega, h2, e, ht, fun x hx => ?_⟩
        rw [List.drop_take, hd, show k - i = (k - (i + 1)) + 1 by omega, List.take_succ_cons] at hx
        rcases List.mem_cons.1 hx with rfl | hx
        · exact q
        · exact ha x (by rw [List.drop_take]; exact hx)
/-- what trimming one block leaves -/
def kept (n bk : Int) (l : List S_Item) : List S_Item := l.filter fun x => !hitT n bk x
theorem kept_all {n bk : Int} {l : List S_Item} (h : ∀ x ∈ l, hitT n bk x = false) : kept n bk l = l := List.filter_eq_self.2 fun x hx => by rw [h x hx]; rfl
/-- the walk's relation: j items are looked at, i of them kept -/
structure KeepI (n bk : Int) (l : List S_Item) (i j : Nat) (dk : List S_Item) : Prop where
  len : dk.length = l.length
  lt : i < j
  low : dk.take i = kept n bk (l.take j)
  high : dk.drop j = l.drop j
theorem KeepI.start {n bk : Int} {l : List S_Item} {k : Nat} (hk : k < l.length) (ht : hitT n bk (rd_Item l (k : Int)) = true) (ha : ∀ x ∈ l.take k, hitT n bk x = false) : KeepI n bk l k (k + 1) l where
  len := rfl
  lt := Nat.lt_succ_self _
  low := by
    rw [List.take_succ_eq_append_getElem hk]
    unfold kept
    rw [List.filter_append, show (l.take k).filter (fun x => !hitT n bk x) = l.take k from kept_all ha]
    have e : rd_Item l (k : Int) = l[k] := by simp [rd_Item, List.getD_eq_getElem?_getD, List.getElem?_eq_getElem hk]
    rw [e] at ht
    simp [ht]
  high := rfl
theorem KeepI.at_ {n bk : Int} {l dk : List S_Item} {i j : Nat} (h : KeepI n bk l i j dk) : rd_Item dk (j : Int) = rd_Item l (j : Int) := by
  have e : ∀ (m : List S_Item), rd_Item m (j : Int) = ((m.drop j)[0]?).getD z_Item := fun m => by simp [rd_Item, List.getD_eq_getElem?_getD]
  rw [e, e, h.high]
theorem KeepI.keep {n bk : Int} {l dk : List S_Item} {i j : Nat} (h : KeepI n bk l i j dk) (hj : j < l.length) (hk : hitT n bk (rd_Item l (j : Int)) = false) : KeepI n bk l (i + 1) (j + 1) (dk.set i (rd_Item l (j : Int))) where
  len := by rw [List.length_set]; exact h.len
  lt := by have := h.lt; omega
  low := by
    have hl := h.len
    have ht := h.lt
    have e : rd_Item l (j : Int) = l[j] := by simp [rd_Item, List.getD_eq_getElem?_getD, List.getElem?_eq_getElem hj]
    rw [List.take_succ_eq_append_getElem hj, List.take_succ_eq_append_getElem (by rw [List.length_set]; omega), List.take_set_of_le (Nat.le_refl _), List.getElem_set_self, h.low]
    unfold kept
    rw [List.filter_append]
    rw [e] at hk ⊢
    simp [hk]
  high := by
    rw [List.drop_set_of_lt (by have := h.lt; omega)]
    have := congrArg (List.drop 1) h.high
    rwa [List.drop_drop, List.drop_drop] at this
theorem KeepI.skip {n bk : Int} {l dk : List S_Item} {i j : Nat} (h : KeepI n bk l i j dk) (hj : j < l.length) (hk : hitT n bk (rd_Item l (j : Int)) = true) : KeepI n bk l i (j + 1) dk where
  len := h.len
  lt := by have := h.lt; omega
  low := by
    have e : rd_Item l (j : Int) = l[j] := by simp [rd_Item, List.getD_eq_getElem?_getD, List.getElem?_eq_getElem hj]
    rw [h.low, List.take_succ_eq_append_getElem hj]
    unfold kept
    rw [List.filter_append]
    rw [e] at hk
    simp [hk]
  high := by
    have := congrArg (List.drop 1) h.high
    rwa [List.drop_drop, List.drop_drop] at this
theorem setCells_app (b : Nat) : ∀ (L M : List Value) (o : Nat) (w : World), w.setCells b o (L ++ M) = (w.setCells b o L).setCells b (o + L.length) M
  | [], M, o, w => by simp [World.setCells]
  | v :: L, M, o, w => by
    rw [List.cons_append, World.setCells, World.setCells, setCells_app b L M (o + 1), List.length_cons, show o + 1 + L.length = o + (L.length + 1) by omega]
/-- items from i on are made zero: the row is still one, its head as it was -/
theorem zero_tail {e base g cap : Nat} {ok : Nat → Prop} : ∀ (m i : Nat) (w : World) (dk : List S_Item), i + m = dk.length → Kd.R k_Item e w base ok (.slice (some ⟨g, 0, none⟩) dk.length cap) dk →
    ∃ dk', dk'.length = dk.length ∧ dk'.take i = dk.take i ∧ Kd.R k_Item e (w.setCells g (i * 5) (List.replicate m [Value.int .i64 0, .string ⟨#[]⟩, .string ⟨#[]⟩, .int .i64 0, .int .i64 0]).flatten) base ok (.slice (some ⟨g, 0, none⟩) dk.length cap) dk' ∧ w.grownBy (w.setCells g (i * 5) (List.replicate m [Value.int .i64 0, .string ⟨#[]⟩, .string ⟨#[]⟩, .int .i64 0, .int .i64 0]).flatten) (some g) := by
  intro m
  induction m with
  | zero => intro i w dk h hr; exact ⟨dk, rfl, rfl, hr, World.grownBy.refl _ _⟩
  | succ m ih =>
    intro i w dk h hr
    obtain ⟨c, hcl, hM, hcc, hfr⟩ := Kd.R_elem hr z_Item (i : Int) (by omega) (by omega)
    obtain rfl := k_Item_openM hM
    have HP := Kd.R_seg hr (i : Int) (by omega) (by omega) (seg := [.int .i64 0, .string ⟨#[]⟩, .string ⟨#[]⟩, .int .i64 0, .int .i64 0]) (j := 0) hcl hcc (show 5 ≤ 5 from by decide) (x' := z_Item) (k_Item_mkM _ _ _ z_Item) (fun _ hk => hk)
    rw [Int.toNat_natCast, Nat.add_zero, show (k_Item).sz = 5 from rfl] at HP
    have hl : (dk.set i z_Item).length = dk.length := List.length_set
    have H1 := HP.1
    rw [← hl] at H1
    obtain ⟨dk', e1, e2, e3, e4⟩ := ih (i + 1) _ (dk.set i z_Item) (by omega) H1
    rw [hl] at e1 e3
    refine ⟨dk', e1, ?_, ?_, ?_⟩
    · have := congrArg (List.take i) e2
      rwa [List.take_take, List.take_take, Nat.min_eq_left (by omega), List.take_set_of_le (Nat.le_refl _)] at this
    · rw [List.replicate_succ, List.flatten_cons, setCells_app]
      rw [show (i + 1) * 5 = i * 5 + [Value.int .i64 0, .string ⟨#[]⟩, .string ⟨#[]⟩, .int .i64 0, .int .i64 0].length by simp; omega] at e3
      exact e3
    · rw [List.replicate_succ, List.flatten_cons, setCells_app]
      rw [show (i + 1) * 5 = i * 5 + [Value.int .i64 0, .string ⟨#[]⟩, .string ⟨#[]⟩, .int .i64 0, .int .i64 0].length by simp; omega] at e4
      exact HP.2.trans e4
theorem zeros5 (a b c d e : Value) (n : Nat) : (Builtin.zeroCells #[a, b, c, d, e] n).toList = (List.replicate n [a, b, c, d, e]).flatten := by
  have h : (Builtin.zeroCells #[a, b, c, d, e] n).toList = (List.range (n * 5)).map fun i => (#[a, b, c, d, e] : Array Value)[i % 5]! := by simp [Builtin.zeroCells, Array.toList_range]
  rw [h]
  clear h
  induction n with
  | zero => rfl
  | succ n ih =>
    rw [List.replicate_succ', List.flatten_append, ← ih, show (n + 1) * 5 = n * 5 + 1 + 1 + 1 + 1 + 1 by omega]
    simp only [List.range_succ, List.map_append, List.map_cons, List.map_nil, List.append_assoc]
    rw [show (n * 5) % 5 = 0 by omega, show (n * 5 + 1) % 5 = 1 by omega, show (n * 5 + 1 + 1) % 5 = 2 by omega, show (n * 5 + 1 + 1 + 1) % 5 = 3 by omega, show (n * 5 + 1 + 1 + 1 + 1) % 5 = 4 by omega]
    rfl
theorem run_clear_rows {P : Program} (w : World) (t e ty : TypeId) (z : Value) (L : List Value) (ht : P.underlying t = some (.slice e)) (hv : ∀ w, (zeroValue e).run P w = .ok z w) (b o n c : Nat) (hn : 0 < n) (hL : (Builtin.zeroCells z.cells n).toList = L) (h1 : ∀ v ∈ L, v.oneCell' = true)
    (hc : ∀ j, j < L.length → (w.cell? ⟨b, o + j, none⟩).isSome = true) (hf : ∀ j, j < L.length → w.frozen? ⟨b, o + j, none⟩ = false) :
    (Builtin.clear_ #[t] ty #[.slice (some ⟨b, o, none⟩) n c]).run P w = .ok (.tuple #[]) (w.setCells b o L) := by
  have hst := Go.run_storeCells_cells (P := P) b o L 0 w (by simpa using hc) (by simpa using hf) h1
  simp only [Nat.add_zero] at hst
  obtain ⟨m, rfl⟩ : ∃ m, n = m + 1 := ⟨n - 1, by omega⟩
  simp [Builtin.clear_, run_underlying ht, hv, hL, hst]
theorem zero_33 (w : World) : (zeroValue 33).run Try.prog w = .ok (.agg #[.int .i64 0, .string ⟨#[]⟩, .string ⟨#[]⟩, .int .i64 0, .int .i64 0]) w := by
  obtain ⟨i0, hi, hzz⟩ := Option.map_eq_some_iff.1 info33
  simp only [Prod.mk.injEq] at hzz
  simp [zeroValue, typeInfo, hi, hzz.1]
theorem flat5_length (n : Nat) (a b c d e : Value) : (List.replicate n [a, b, c, d, e]).flatten.length = n * 5 := by
  induction n with
  | zero => rfl
  | succ n ih => rw [List.replicate_succ, List.flatten_cons, List.length_append, ih]; simp; omega
/-- the clear of items from i on -/
theorem clear_items {base g c : Nat} {ok : Nat → Prop} {w : World} {dk : List S_Item} (hr : Kd.R k_Item 33 w base ok (.slice (some ⟨g, 0, none⟩) dk.length c) dk) (i : Nat) (hi : i < dk.length) (ty : TypeId) :
    ∃ w1, (∀ m, m = dk.length - i → ∀ cc, (Builtin.clear_ #[24] ty #[.slice (some ⟨g, i * 5, none⟩) m cc]).run Try.prog w = .ok (.tuple #[]) w1) ∧ Kd.R k_Item 33 w1 base ok (.slice (some ⟨g, 0, none⟩) i c) (dk.take i) ∧ w.grownBy w1 (some g) := by
  obtain ⟨dk', e1, e2, e3, e4⟩ := zero_tail (dk.length - i) i w dk (by omega) hr
  refine ⟨_, ?_, ?_, e4⟩
  · rintro m rfl cc
    have hcell : ∀ j, j < (List.replicate (dk.length - i) [Value.int .i64 0, .string ⟨#[]⟩, .string ⟨#[]⟩, .int .i64 0, .int .i64 0]).flatten.length → (w.cell? ⟨g, i * 5 + j, none⟩).isSome = true ∧ w.frozen? ⟨g, i * 5 + j, none⟩ = false := by
      intro j hj
      rw [flat5_length] at hj
      obtain ⟨c', hcl, hM, hcc, hfr⟩ := Kd.R_elem hr z_Item ((i + j / 5 : Nat) : Int) (by omega) (by omega)
      have h5 : j % 5 < c'.length := by rw [hcl]; show j % 5 < 5; omega
      have := hcc (j % 5) _ (List.getElem?_eq_getElem h5)
      have h6 := hfr (j % 5)
      rw [Int.toNat_natCast, show (k_Item).sz = 5 from rfl, show (i + j / 5) * 5 + j % 5 = i * 5 + j by omega] at this h6
      exact ⟨by rw [this]; rfl, h6⟩
    refine run_clear_rows w 24 33 ty _ _ Try.underlying24 zero_33 g (i * 5) _ _ (by omega) (zeros5 _ _ _ _ _ _) ?_ (fun j hj => (hcell j hj).1) (fun j hj => (hcell j hj).2)
    intro v hv
    obtain ⟨l, hl, hv⟩ := List.mem_flatten.1 hv
    rw [(List.mem_replicate.1 hl).2] at hv
    simp only [List.mem_cons, List.not_mem_nil, or_false] at hv
    rcases hv with rfl | rfl | rfl | rfl | rfl <;> rfl
  · rw [← e2]
    exact Kd.R_take e3 (by omega)
set_option maxHeartbeats 16000000 in
set_option maxRecDepth 100000 in
theorem trimDel (gl gb : Nat) (n bk : Int) (hn1 : 1 ≤ n) (base : Nat) (ok : Nat → Prop) (g c : Nat) (l : List S_Item) (w : World) (h1 : w.heap[gl]? = some (.cells #[.int .i64 n] 3 (0, 0))) (h2 : w.heap[gb]? = some (.cells #[.int .i64 bk] 3 (0, 0))) (ho : Kd.R k_Item 33 w base ok (.slice (some ⟨g, 0, none⟩) l.length c) l) :
    Calls Try.prog 54 #[.slice (some ⟨g, 0, none⟩) l.length c, .func (.func 55) #[] #[.pointer (some ⟨gl, 0, none⟩), .pointer (some ⟨gb, 0, none⟩)]] w fun e w' => e = .returned (.slice (some ⟨g, 0, none⟩) (kept n bk l).length c) ∧ Kd.R k_Item 33 w' base ok (.slice (some ⟨g, 0, none⟩) (kept n bk l).length c) (kept n bk l) ∧ w.grownBy w' (some g) := by
  have eC : ∀ args w, (callFunc 55 args).run Try.prog w = .ok (.enter 55 args) w := enters_of Try.func55 (by kernel_rfl) rfl
  have hu := Try.underlying33
  have HC := (Kd.R_reads' ho).2.2
  have HI := Aside0.mk (trimIdx gl gb n bk hn1 (some ⟨g, 0, none⟩) c l w h1 h2 HC)
  have HN := Aside0.mk (Kd.C_max HC)
  have NL : Aside0 (some gl ≠ (some g : Option Nat)) := ⟨fun e => Kd.R_ne ho h1 (by decide) (qf9_)⟩
  have NB : Aside0 (some gb ≠ (some g : Option Nat)) := ⟨fun e => Kd.R_ne ho h2 (by decide) (qf9_)⟩
  have HX := Aside0.mk h1
  have HY := Aside0.mk h2
  have HO := Aside0.mk ho
  have HL := Aside0.mk hn1
  clear h1 h2 ho hn1 HC
  rcases hitAt_from n bk l l.length 0 (by omega) with ⟨e0, hall⟩ | ⟨k0, _, hk0, e0, ht, hall⟩
  · rw [e0] at HI
    rw [List.drop_zero] at hall
    have E := Aside0.mk (kept_all hall)
    clear e0 hall
    go_enter Try.func54, Try.ntmps54
    go_wp2_with (go_at_call 99; refine HI.out.mono ?_; rintro e w' ⟨rfl, hb'⟩)
    go_ret
    rw [E.out]
    exact ⟨rfl, Kd.R_below HO.out hb', grown_of_below hb' _⟩
  · rw [e0] at HI
    rw [List.drop_zero] at hall
    have I0 := Aside0.mk (KeepI.start hk0 ht hall)
    have hne1 : ((k0 : Int) == -1) = false := beq_eq_false_iff_ne.2 (by omega)
    have hn := HN.out
    clear e0 ht hall
    go_enter Try.func54, Try.ntmps54
    go_wp2_with (go_at_call 99; refine HI.out.mono ?_; rintro e w' ⟨rfl, hb'⟩)
    go_loopg [5, 6, 7] l.length (fun gg s5 s6 _ wr => ∃ (i j : Nat) (dk : List S_Item), s5 = .int .i64 i ∧ s6 = .int .i64 j ∧ j ≤ l.length ∧ l.length - j ≤ gg ∧ Aside0 (w.grownBy wr (some g)) ∧ Aside0 (Kd.R k_Item 33 wr base ok (.slice (some ⟨g, 0, none⟩) l.length c) dk) ∧ Aside0 (KeepI n bk l i j dk))
    case atStart => exact ⟨k0, k0 + 1, l, rfl, by go_num, by omega, (by omega), ⟨grown_of_below hb' _⟩, ⟨Kd.R_below HO.out hb'⟩, I0⟩
    case round =>
      obtain ⟨i, j, dk, rfl, rfl, hjd, hgg, HG, HD, I⟩ := hrel
      have hn := HN.out
      have hij := I.out.lt
      have hdl := I.out.len
      by_cases hlt : j < l.length
      · have hltz : (j : Int) < (l.length : Int) := by omega
        have hxe := I.out.at_
        obtain ⟨ce, hcl, hM, hcc, hfr⟩ := Kd.R_elem HD.out z_Item (j : Int) (by omega) hltz
        obtain rfl := k_Item_openM hM
        rw [show dk.getD (j : Int).toNat z_Item = rd_Item l (j : Int) from hxe] at hcc
        obtain ⟨x, hx⟩ : ∃ x, x = rd_Item l (j : Int) := ⟨_, rfl⟩
        rw [← hx] at hcc
        have h0 : wr.cell? ⟨g, j * 5, none⟩ = some (.int .i64 x.f0) := hcc 0 _ rfl
        have h1 : wr.cell? ⟨g, j * 5 + 1, none⟩ = some (.string x.f1) := hcc 1 _ rfl
        have h2 : wr.cell? ⟨g, j * 5 + 2, none⟩ = some (.string x.f2) := hcc 2 _ rfl
        have h3 : wr.cell? ⟨g, j * 5 + 3, none⟩ = some (.int .i64 x.f3) := hcc 3 _ rfl
        have h4 : wr.cell? ⟨g, j * 5 + 4, none⟩ = some (.int .i64 x.f4) := hcc 4 _ rfl
        have X := Aside0.mk hx
        clear hcl hM hcc hfr hxe hx
        cases hq : (wrap64 (Int.tdiv x.f0 n) == bk) with
        | true =>
          go_wp2_with (first | ((with_reducible refine gate_dst (N := 7) rfl ?_); refine box_event ?hg (N := 7) ?hd (cs := #[.int .i64 0, .string ⟨#[]⟩, .string ⟨#[]⟩, .int .i64 0, .int .i64 0]) (t := 33) ?hr ?_; (case hd => rfl); (case hg => rfl); (case hr => first | (go_simp; done) | (go_simp; rfl)); intro gv hgv w7 hbox hb; have GV := Aside0.mk hgv; have V7 := Aside0.mk hbox; have B7 := Aside0.mk hb; have hv_0 : w7.cell? ⟨gv, 0, none⟩ = some (.int .i64 0) := (blk_cell hbox 0).trans rfl; have hv_1 : w7.cell? ⟨gv, 1, none⟩ = some (.string ⟨#[]⟩) := (blk_cell hbox 1).trans rfl; have hv_2 : w7.cell? ⟨gv, 2, none⟩ = some (.string ⟨#[]⟩) := (blk_cell hbox 2).trans rfl; have hv_3 : w7.cell? ⟨gv, 3, none⟩ = some (.int .i64 0) := (blk_cell hbox 3).trans rfl; have hv_4 : w7.cell? ⟨gv, 4, none⟩ = some (.int .i64 0) := (blk_cell hbox 4).trans rfl; have hz_0 := blk_frozen hbox 0; have hz_1 := blk_frozen hbox 1; have hz_2 := blk_frozen hbox 2; have hz_3 := blk_frozen hbox 3; have hz_4 := blk_frozen hbox 4; clear h0 h1 h2 h3 h4 hb hbox hgv) | ((with_reducible refine gate_store (t := 33) (p := 7) rfl ?_); refine store_event (t := 33) (p := 7) (v := ?vo_w8) (w1 := (((((w7.setCell ⟨gv, 0, none⟩ (.int .i64 x.f0)).setCell ⟨gv, 1, none⟩ (.string x.f1)).setCell ⟨gv, 2, none⟩ (.string x.f2)).setCell ⟨gv, 3, none⟩ (.int .i64 x.f3)).setCell ⟨gv, 4, none⟩ (.int .i64 x.f4))) ?hg ?ho ?hn ?hr ?_; (case ho => rfl); (case hg => rfl); (case hn => rfl); (case hr => first | (go_simp; done) | (go_simp; rfl)); intro w8 hw; have V8 : Aside0 (w8.heap[gv]? = some (.cells #[.int .i64 x.f0, .string x.f1, .string x.f2, .int .i64 x.f3, .int .i64 x.f4] 33 (0, 0))) := ⟨by rw [hw]; exact blk_put (blk_put (blk_put (blk_put (blk_put V7.out 0 _ rfl) 1 _ rfl) 2 _ rfl) 3 _ rfl) 4 _ rfl⟩; have B8 : Aside0 (Below wr.heap.size wr w8) := ⟨qf8_⟩; have hcall := trimHit gl gb n bk HL.out x.f0 x.f1 x.f2 x.f3 x.f4 w8 (blk_below (blk_grown HX.out HG.out NL.out) B8.out) (blk_below (blk_grown HY.out HG.out NB.out) B8.out); rw [hq] at hcall; have HQ := Aside0.mk hcall; have hd_0 : w8.cell? ⟨gv, 0, none⟩ = some (.int .i64 x.f0) := (blk_cell V8.out 0).trans rfl; have hd_1 : w8.cell? ⟨gv, 1, none⟩ = some (.string x.f1) := (blk_cell V8.out 1).trans rfl; have hd_2 : w8.cell? ⟨gv, 2, none⟩ = some (.string x.f2) := (blk_cell V8.out 2).trans rfl; have hd_3 : w8.cell? ⟨gv, 3, none⟩ = some (.int .i64 x.f3) := (blk_cell V8.out 3).trans rfl; have hd_4 : w8.cell? ⟨gv, 4, none⟩ = some (.int .i64 x.f4) := (blk_cell V8.out 4).trans rfl; clear hw hcall hv_0 hv_1 hv_2 hv_3 hv_4 hz_0 hz_1 hz_2 hz_3 hz_4 V7 B7) | (go_at_fn 55; refine HQ.out.mono ?_; rintro e w9 ⟨rfl, hb9⟩; have B9 := Aside0.mk (below_step B8.out hb9); clear hd_0 hd_1 hd_2 hd_3 hd_4 hb9 HQ V8 B8))
          go_roundg (l.length - (j + 1))
          case measure => omega
          case rel => exact ⟨i, j + 1, dk, rfl, by go_num, by omega, Nat.le_refl _, ⟨HG.out.trans (grown_of_below B9.out _)⟩, ⟨Kd.R_below HD.out B9.out⟩, ⟨I.out.skip hlt (by rw [← X.out]; exact hq)⟩⟩
        | false =>
          have hil : (i : Int) < (l.length : Int) := by omega
          go_wp2_with (first | ((with_reducible refine gate_dst (N := 7) rfl ?_); refine box_event ?hg (N := 7) ?hd (cs := #[.int .i64 0, .string ⟨#[]⟩, .string ⟨#[]⟩, .int .i64 0, .int .i64 0]) (t := 33) ?hr ?_; (case hd => rfl); (case hg => rfl); (case hr => first | (go_simp; done) | (go_simp; rfl)); intro gv hgv w7 hbox hb; have GV := Aside0.mk hgv; have V7 := Aside0.mk hbox; have B7 := Aside0.mk hb; have hv_0 : w7.cell? ⟨gv, 0, none⟩ = some (.int .i64 0) := (blk_cell hbox 0).trans rfl; have hv_1 : w7.cell? ⟨gv, 1, none⟩ = some (.string ⟨#[]⟩) := (blk_cell hbox 1).trans rfl; have hv_2 : w7.cell? ⟨gv, 2, none⟩ = some (.string ⟨#[]⟩) := (blk_cell hbox 2).trans rfl; have hv_3 : w7.cell? ⟨gv, 3, none⟩ = some (.int .i64 0) := (blk_cell hbox 3).trans rfl; have hv_4 : w7.cell? ⟨gv, 4, none⟩ = some (.int .i64 0) := (blk_cell hbox 4).trans rfl; have hz_0 := blk_frozen hbox 0; have hz_1 := blk_frozen hbox 1; have hz_2 := blk_frozen hbox 2; have hz_3 := blk_frozen hbox 3; have hz_4 := blk_frozen hbox 4; clear h0 h1 h2 h3 h4 hb hbox hgv) | ((with_reducible refine gate_store (t := 33) (p := 7) rfl ?_); refine store_event (t := 33) (p := 7) (v := ?vo_w8) (w1 := (((((w7.setCell ⟨gv, 0, none⟩ (.int .i64 x.f0)).setCell ⟨gv, 1, none⟩ (.string x.f1)).setCell ⟨gv, 2, none⟩ (.string x.f2)).setCell ⟨gv, 3, none⟩ (.int .i64 x.f3)).setCell ⟨gv, 4, none⟩ (.int .i64 x.f4))) ?hg ?ho ?hn ?hr ?_; (case ho => rfl); (case hg => rfl); (case hn => rfl); (case hr => first | (go_simp; done) | (go_simp; rfl)); intro w8 hw; have V8 : Aside0 (w8.heap[gv]? = some (.cells #[.int .i64 x.f0, .string x.f1, .string x.f2, .int .i64 x.f3, .int .i64 x.f4] 33 (0, 0))) := ⟨by rw [hw]; exact blk_put (blk_put (blk_put (blk_put (blk_put V7.out 0 _ rfl) 1 _ rfl) 2 _ rfl) 3 _ rfl) 4 _ rfl⟩; have B8 : Aside0 (Below wr.heap.size wr w8) := ⟨qf8_⟩; have hcall := trimHit gl gb n bk HL.out x.f0 x.f1 x.f2 x.f3 x.f4 w8 (blk_below (blk_grown HX.out HG.out NL.out) B8.out) (blk_below (blk_grown HY.out HG.out NB.out) B8.out); rw [hq] at hcall; have HQ := Aside0.mk hcall; have hd_0 : w8.cell? ⟨gv, 0, none⟩ = some (.int .i64 x.f0) := (blk_cell V8.out 0).trans rfl; have hd_1 : w8.cell? ⟨gv, 1, none⟩ = some (.string x.f1) := (blk_cell V8.out 1).trans rfl; have hd_2 : w8.cell? ⟨gv, 2, none⟩ = some (.string x.f2) := (blk_cell V8.out 2).trans rfl; have hd_3 : w8.cell? ⟨gv, 3, none⟩ = some (.int .i64 x.f3) := (blk_cell V8.out 3).trans rfl; have hd_4 : w8.cell? ⟨gv, 4, none⟩ = some (.int .i64 x.f4) := (blk_cell V8.out 4).trans rfl; clear hw hcall hv_0 hv_1 hv_2 hv_3 hv_4 hz_0 hz_1 hz_2 hz_3 hz_4 V7 B7) | (go_at_fn 55; refine HQ.out.mono ?_; rintro e w9 ⟨rfl, hb9⟩; have B9 := Aside0.mk (below_step B8.out hb9); have V9 := blk_below V8.out hb9; have hd_0 : w9.cell? ⟨gv, 0, none⟩ = some (.int .i64 x.f0) := (blk_cell V9 0).trans rfl; have hd_1 : w9.cell? ⟨gv, 1, none⟩ = some (.string x.f1) := (blk_cell V9 1).trans rfl; have hd_2 : w9.cell? ⟨gv, 2, none⟩ = some (.string x.f2) := (blk_cell V9 2).trans rfl; have hd_3 : w9.cell? ⟨gv, 3, none⟩ = some (.int .i64 x.f3) := (blk_cell V9 3).trans rfl; have hd_4 : w9.cell? ⟨gv, 4, none⟩ = some (.int .i64 x.f4) := (blk_cell V9 4).trans rfl; have R9 := Kd.R_below HD.out B9.out; obtain ⟨ce, hcl, hM, hcc, hfr⟩ := Kd.R_elem R9 z_Item (i : Int) (by omega) hil; obtain rfl := k_Item_openM hM; have HP := Kd.R_seg R9 (i : Int) (by omega) hil (seg := [.int .i64 x.f0, .string x.f1, .string x.f2, .int .i64 x.f3, .int .i64 x.f4]) (j := 0) hcl hcc (show 5 ≤ 5 from by decide) (x' := x) (k_Item_mkM _ _ _ x) (fun _ hk => hk); have he_0 : w9.cell? ⟨g, i * 5, none⟩ = _ := hcc 0 _ rfl; have he_1 : w9.cell? ⟨g, i * 5 + 1, none⟩ = _ := hcc 1 _ rfl; have he_2 : w9.cell? ⟨g, i * 5 + 2, none⟩ = _ := hcc 2 _ rfl; have he_3 : w9.cell? ⟨g, i * 5 + 3, none⟩ = _ := hcc 3 _ rfl; have he_4 : w9.cell? ⟨g, i * 5 + 4, none⟩ = _ := hcc 4 _ rfl; have hf_0 : w9.frozen? ⟨g, i * 5, none⟩ = false := hfr 0; have hf_1 : w9.frozen? ⟨g, i * 5 + 1, none⟩ = false := hfr 1; have hf_2 : w9.frozen? ⟨g, i * 5 + 2, none⟩ = false := hfr 2; have hf_3 : w9.frozen? ⟨g, i * 5 + 3, none⟩ = false := hfr 3; have hf_4 : w9.frozen? ⟨g, i * 5 + 4, none⟩ = false := hfr 4; have HP := Aside0.mk HP; clear hb9 HQ V8 B8 V9 R9 hcl hM hcc hfr) | ((with_reducible refine gate_store (t := 33) (p := 33) rfl ?_); refine store_event (t := 33) (p := 33) (v := ?vo_w10) (w1 := (((((w9.setCell ⟨g, i * 5, none⟩ (.int .i64 x.f0)).setCell ⟨g, i * 5 + 1, none⟩ (.string x.f1)).setCell ⟨g, i * 5 + 2, none⟩ (.string x.f2)).setCell ⟨g, i * 5 + 3, none⟩ (.int .i64 x.f3)).setCell ⟨g, i * 5 + 4, none⟩ (.int .i64 x.f4))) ?hg ?ho ?hn ?hr ?_; (case ho => rfl); (case hg => rfl); (case hn => rfl); (case hr => first | (go_simp; done) | (go_simp; rfl)); intro w10 hw; have R10 : Aside0 (Kd.R k_Item 33 w10 base ok (.slice (some ⟨g, 0, none⟩) l.length c) (dk.set i x)) := ⟨by rw [hw]; exact HP.out.1⟩; have G10 : Aside0 (w9.grownBy w10 (some g)) := ⟨by rw [hw]; exact HP.out.2⟩; clear hw HP he_0 he_1 he_2 he_3 he_4 hf_0 hf_1 hf_2 hf_3 hf_4 hd_0 hd_1 hd_2 hd_3 hd_4))
          go_roundg (l.length - (j + 1))
          case measure => omega
          case rel => exact ⟨i + 1, j + 1, dk.set i x, by go_num, by go_num, by omega, Nat.le_refl _, ⟨(HG.out.trans (grown_of_below B9.out _)).trans G10.out⟩, R10, ⟨by have h_ := I.out.keep hlt (by rw [← X.out]; exact hq); rw [← X.out] at h_; exact h_⟩⟩
      · obtain rfl : j = l.length := by omega
        have hltz : ¬ (l.length : Int) < (l.length : Int) := by omega
        have hD := HD.out
        have hcap := (Kd.R_reads' hD).2.1
        rw [show l.length = dk.length from hdl.symm] at hD
        obtain ⟨w1, hcl, hr1, hg1⟩ := clear_items hD i (by omega) 0
        have hic : i ≤ c := by omega
        have hiz : (i : Int) ≤ (l.length : Int) := by omega
        have hcl := hcl (l.length - i) (by omega) (c - i)
        have hK : (kept n bk l).length = i := by
          have h_ := I.out.low
          rw [List.take_length] at h_
          rw [← h_, List.length_take]
          omega
        have hK2 : dk.take i = kept n bk l := by
          have h_ := I.out.low
          rwa [List.take_length] at h_
        have HR1 := Aside0.mk hr1
        have HG1 := Aside0.mk (HG.out.trans hg1)
        have HKK := Aside0.mk (And.intro hK hK2)
        clear hD hr1 hg1 hK hK2
        go_wp2
        go_ret
        rw [HKK.out.1, ← HKK.out.2]
        exact ⟨rfl, HR1.out, HG1.out⟩
/-! ### impl_RowTrim: function 11 -/
-- IMPORT Derived.Deep.QuietTactic
-- IMPORT Derived.BigQuiet
-- IMPORT Derived.RegionTactic
def impl_RowTrim.l0 (n keep b : Int) : Nat → Int → List S_Item → Option (Int × Int × List S_Item)
  | 0, _, _ => none
  | k + 1, a, l => if (l.length : Int) > keep then (if wrap64 (Int.tdiv (rd_Item l 0).f0 n) = wrap64 (Int.tdiv (wrap64 (b - 1)) n) then some (a, b, l) else impl_RowTrim.l0 n keep b k (wrap64 (wrap64 (wrap64 (Int.tdiv (rd_Item l 0).f0 n) + 1) * n)) (kept n (wrap64 (Int.tdiv (rd_Item l 0).f0 n)) l)) else some (a, b, l)
def impl_RowTrim.f (k : Nat) (a0_0 : Int) (a0_1 : Int) (l0_2 : List (S_Item)) (a1 : Int) (a2 : Int) : Option (Int × Int × (List (S_Item))) :=
  (impl_copyRow.f a0_0 a0_1 l0_2).bind fun c => if a1 < 1 then some c else if a2 < 0 then some c else (impl_RowOk.f k a0_0 a0_1 l0_2).bind fun t => if t = true then impl_RowTrim.l0 a1 a2 c.2.1 k c.1 c.2.2 else some c
theorem impl_RowTrim.mono_l (n keep b : Int) : ∀ k, (∀ y0 y1, LeO (impl_RowTrim.l0 n keep b k y0 y1) (impl_RowTrim.l0 n keep b (k + 1) y0 y1))
  | 0 => fun _ _ r h => by simp [impl_RowTrim.l0] at h
  | k + 1 => by
    have ih0 := impl_RowTrim.mono_l n keep b k
    intro y0 y1
    unfold impl_RowTrim.l0
    refine LeO.ite (LeO.ite (LeO.refl _) (ih0 _ _)) (LeO.refl _)
theorem impl_RowTrim.mono : ∀ a0 a1 a2 a3 a4 k, LeO (impl_RowTrim.f k a0 a1 a2 a3 a4) (impl_RowTrim.f (k + 1) a0 a1 a2 a3 a4) := by
  intro a0 a1 a2 a3 a4 k
  unfold impl_RowTrim.f
  refine LeO.bind (LeO.refl _) (fun c => LeO.ite (LeO.refl _) (LeO.ite (LeO.refl _) (LeO.bind (impl_RowOk.mono _ _ _ _) (fun t => LeO.ite (impl_RowTrim.mono_l _ _ _ _ _ _) (LeO.refl _)))))
/-- what is known of memory while a row is trimmed -/
structure TrimS (w W : World) (g4 g6 g7 : Nat) (n a b : Int) (v : Value) (l : List S_Item) : Prop where
  below : Below w.heap.size w W
  b4 : W.heap[g4]? = some (.cells #[.int .i64 n] 3 (0, 0))
  b6 : W.heap[g6]? = some (.cells #[.int .i64 0, .int .i64 0, .slice none 0 0] 26 (0, 0))
  b7 : W.heap[g7]? = some (.cells #[.int .i64 a, .int .i64 b, v] 26 (0, 0))
  ge4 : w.heap.size ≤ g4
  ge6 : w.heap.size ≤ g6
  ge7 : w.heap.size ≤ g7
  ne : g6 ≠ g7
  row : Kd.R k_Item 33 W w.heap.size (fun _ => True) v l
theorem TrimS.step {w W W1 : World} {g4 g6 g7 : Nat} {n a b : Int} {v : Value} {l : List S_Item} (h : TrimS w W g4 g6 g7 n a b v l) (hb : Below W.heap.size W W1) : TrimS w W1 g4 g6 g7 n a b v l :=
  ⟨below_step h.below hb, blk_below h.b4 hb, blk_below h.b6 hb, blk_below h.b7 hb, h.ge4, h.ge6, h.ge7, h.ne, Kd.R_below h.row hb⟩
theorem TrimS.set {w W : World} {g4 g6 g7 : Nat} {n a b a' : Int} {v v' : Value} {l : List S_Item} (h : TrimS w W g4 g6 g7 n a b v l) (j : Nat) (u : Value) (hc : (#[.int .i64 a, .int .i64 b, v] : Array Value).setIfInBounds j u = #[.int .i64 a', .int .i64 b, v']) (hr : Kd.R k_Item 33 W w.heap.size (fun _ => True) v' l) : TrimS w (W.setCell ⟨g7, j, none⟩ u) g4 g6 g7 n a' b v' l :=
  ⟨below_set h.below h.ge7, blk_far h.b4 (fun e => blk_ne h.b4 h.b7 (by decide) e) _, blk_far h.b6 h.ne _, blk_put h.b7 j u hc, h.ge4, h.ge6, h.ge7, h.ne, Kd.R_mono (Kd.R_far (p := ⟨g7, j, none⟩) (Kd.R_types hr h.b7 (by decide)) (fun _ hk => hk.2) u) (fun _ hk => trivial)⟩
set_option maxHeartbeats 16000000 in
set_option maxRecDepth 100000 in
theorem impl_RowTrim.calls (k : Nat) (a0_0 : Int) (a0_1 : Int) (A0_2 : Option Addr) (c0_2 : Nat) (l0_2 : List (S_Item)) (a1 : Int) (a2 : Int) (r1 : Int) (r2 : Int) (r3 : List (S_Item)) (w : World) (hr0_2 : Kd.C k_Item w A0_2 l0_2.length l0_2) (hc0_2 : l0_2.length ≤ c0_2) (h : impl_RowTrim.f k a0_0 a0_1 l0_2 a1 a2 = some (r1, r2, r3)) :
    Calls Try.prog 11 #[.agg #[.int .i64 a0_0, .int .i64 a0_1, .slice A0_2 l0_2.length c0_2], .int .i64 a1, .int .i64 a2] w fun e w' => ∃ v2_ : Value, e = .returned (.agg #[.int .i64 r1, .int .i64 r2, v2_]) ∧ Kd.R k_Item 33 w' w.heap.size (fun _ => True) v2_ r3 ∧ Below w.heap.size w w' := by
  have hu26 := Try.underlying26
  have hu33 := Try.underlying33
  have HR := Aside0.mk hr0_2
  have HC := Aside0.mk hc0_2
  clear hr0_2 hc0_2
  unfold impl_RowTrim.f at h
  obtain ⟨⟨t0, t1, l⟩, AC, h⟩ := Option.bind_eq_some_iff.mp h
  have AC := Aside0.mk AC
  have H := Aside0.mk h
  clear h
  go_enter Try.func11, Try.ntmps11
  go_upto_region 2 with (first | ((with_reducible refine gate_dst (N := 3) rfl ?_); refine box_event ?hg (N := 3) ?hd (cs := #[.int .i64 a0_0, .int .i64 a0_1, .slice A0_2 l0_2.length c0_2]) (t := 26) ?hr ?_; (case hd => rfl); (case hg => rfl); (case hr => first | (go_simp; done) | (go_simp; rfl)); intro g3 hg w3 hbox hb; have B3 := Aside0.mk (hb); have K3 := Aside0.mk hbox; have E3 := Aside0.mk (Nat.le_of_eq hg.symm); clear hb hbox hg) | ((with_reducible refine gate_dst (N := 4) rfl ?_); refine box_event ?hg (N := 4) ?hd (cs := #[.int .i64 a1]) (t := 3) ?hr ?_; (case hd => rfl); (case hg => rfl); (case hr => first | (go_simp; done) | (go_simp; rfl)); intro g4 hg w4 hbox hb; have K34 := Aside0.mk (blk_below K3.out hb); have E4 := Aside0.mk (by rw [hg]; exact B3.out.size : w.heap.size ≤ g4); have B4 := Aside0.mk (below_step B3.out hb); have K4 := Aside0.mk hbox; clear hb hbox hg B3 K3) | ((with_reducible refine gate_dst (N := 6) rfl ?_); refine box_event ?hg (N := 6) ?hd (cs := #[.int .i64 0, .int .i64 0, .slice none 0 0]) (t := 26) ?hr ?_; (case hd => rfl); (case hg => rfl); (case hr => first | (go_simp; done) | (go_simp; rfl)); intro g6 hg w6 hbox hb; have K36 := Aside0.mk (blk_below K34.out hb); have K46 := Aside0.mk (blk_below K4.out hb); have E6 := Aside0.mk (by rw [hg]; exact B4.out.size : w.heap.size ≤ g6); have B6 := Aside0.mk (below_step B4.out hb); have K6 := Aside0.mk hbox; have hr_0 : w6.cell? ⟨g3, 0, none⟩ = some (.int .i64 a0_0) := (blk_cell K36.out 0).trans rfl; have hr_1 : w6.cell? ⟨g3, 1, none⟩ = some (.int .i64 a0_1) := (blk_cell K36.out 1).trans rfl; have hr_2 : w6.cell? ⟨g3, 2, none⟩ = some (.slice A0_2 l0_2.length c0_2) := (blk_cell K36.out 2).trans rfl; clear hb hbox hg B4 K34 K4) | ((with_reducible refine gate_callee (f := 53) rfl ?_); refine goesL_ (some 10) rfl rfl Try.func53 (by kernel_rfl) rfl #[.agg #[.int .i64 a0_0, .int .i64 a0_1, .slice A0_2 l0_2.length c0_2]] rfl (by (try simp only [List.map_toArray, List.map_cons, List.map_nil]); first | done | rfl) ?_; (with_reducible refine (impl_copyRow.calls a0_0 a0_1 A0_2 c0_2 l0_2 t0 t1 l _ (Kd.C_below HR.out B6.out) HC.out AC.out).mono ?_); rintro e w10 ⟨v, rfl, hr10, hb⟩; refine ⟨_, rfl, ?_⟩; have K3a := Aside0.mk (blk_below K36.out hb); have K4a := Aside0.mk (blk_below K46.out hb); have K6a := Aside0.mk (blk_below K6.out hb); have R10 := Aside0.mk (Kd.R_lower hr10 B6.out.size); have B10 := Aside0.mk (below_step B6.out hb); clear hr10 hb K36 K46 K6 B6 hr_0 hr_1 hr_2) | ((with_reducible refine gate_dst (N := 7) rfl ?_); refine box_event ?hg (N := 7) ?hd (cs := #[.int .i64 0, .int .i64 0, .slice none 0 0]) (t := 26) ?hr ?_; (case hd => rfl); (case hg => rfl); (case hr => first | (go_simp; done) | (go_simp; rfl)); intro g7 hg w7 hbox hb; have K37 := Aside0.mk (blk_below K3a.out hb); have N67 := Aside0.mk (by rw [hg]; exact Nat.ne_of_lt (blk_lt K6a.out) : g6 ≠ g7); have N37 := Aside0.mk (by rw [hg]; exact Nat.ne_of_lt (blk_lt K3a.out) : g3 ≠ g7); have E7 := Aside0.mk (by rw [hg]; exact B10.out.size : w.heap.size ≤ g7); have S7 := Aside0.mk (TrimS.mk (below_step B10.out hb) (blk_below K4a.out hb) (blk_below K6a.out hb) hbox E4.out E6.out E7.out N67.out (Kd.R_nil k_Item 33 w7 w.heap.size (fun _ => True))); have R7 := Aside0.mk (Kd.R_below R10.out hb); have hv_0 : w7.cell? ⟨g7, 0, none⟩ = some (.int .i64 0) := (blk_cell hbox 0).trans rfl; have hv_1 : w7.cell? ⟨g7, 1, none⟩ = some (.int .i64 0) := (blk_cell hbox 1).trans rfl; have hv_2 : w7.cell? ⟨g7, 2, none⟩ = some (.slice none 0 0) := (blk_cell hbox 2).trans rfl; have hz_0 := blk_frozen hbox 0; have hz_1 := blk_frozen hbox 1; have hz_2 := blk_frozen hbox 2; obtain ⟨Ao, co, rfl⟩ := Kd.R_slice R7.out; clear hb hbox hg K3a K4a K6a R10 B10) | ((with_reducible refine gate_store (t := 26) (p := 7) rfl ?_); refine store_event (t := 26) (p := 7) (v := ?vo_w8) (w1 := (((w7.setCell ⟨g7, 0, none⟩ (.int .i64 t0)).setCell ⟨g7, 1, none⟩ (.int .i64 t1)).setCell ⟨g7, 2, none⟩ (.slice Ao l.length co))) ?hg ?ho ?hn ?hr ?_; (case ho => rfl); (case hg => rfl); (case hn => rfl); (case hr => first | (go_simp; done) | (go_simp; rfl)); intro w8 hw; have K38 : Aside0 (w8.heap[g3]? = some (.cells #[.int .i64 a0_0, .int .i64 a0_1, .slice A0_2 l0_2.length c0_2] 26 (0, 0))) := ⟨by rw [hw]; exact blk_far (blk_far (blk_far K37.out N37.out _) N37.out _) N37.out _⟩; have S8 : Aside0 (TrimS w w8 g4 g6 g7 a1 t0 t1 (.slice Ao l.length co) l) := ⟨by rw [hw]; exact TrimS.mk (below_set (below_set (below_set S7.out.below E7.out) E7.out) E7.out) (blk_far (blk_far (blk_far S7.out.b4 (fun e => blk_ne S7.out.b4 S7.out.b7 (by decide) e) _) (fun e => blk_ne S7.out.b4 S7.out.b7 (by decide) e) _) (fun e => blk_ne S7.out.b4 S7.out.b7 (by decide) e) _) (blk_far (blk_far (blk_far S7.out.b6 N67.out _) N67.out _) N67.out _) (blk_put (blk_put (blk_put S7.out.b7 0 _ rfl) 1 _ rfl) 2 _ rfl) E4.out E6.out E7.out N67.out (Kd.R_mono (Kd.R_far (p := ⟨g7, 2, none⟩) (Kd.R_far (p := ⟨g7, 1, none⟩) (Kd.R_far (p := ⟨g7, 0, none⟩) (Kd.R_types R7.out S7.out.b7 (by decide)) (fun _ hk => hk.2) _) (fun _ hk => hk.2) _) (fun _ hk => hk.2) _) (fun _ _ => trivial))⟩; clear hw hv_0 hv_1 hv_2 hz_0 hz_1 hz_2 S7 R7 K37))
  (try simp only [Act.put, List.setIfInBounds_toArray, List.set_cons_zero, List.set_cons_succ])
  go_cut [21] (fun v21 wc => ∃ x21 : Bool, v21 = .bool x21 ∧ Aside0 (x21 = true → (t0, t1, l) = (r1, r2, r3)) ∧ Aside0 (x21 = false → 1 ≤ a1 ∧ 0 ≤ a2 ∧ impl_RowTrim.l0 a1 a2 t1 k t0 l = some (r1, r2, r3)) ∧ Aside0 (TrimS w wc g4 g6 g7 a1 t0 t1 (.slice Ao l.length co) l))
  case first =>
    have hl4 : w8.cell? ⟨g4, 0, none⟩ = some (.int .i64 a1) := (blk_cell S8.out.b4 0).trans rfl
    by_cases c1 : a1 < 1
    · have c1b := decide_eq_true c1
      have H2 : Aside0 ((t0, t1, l) = (r1, r2, r3)) := ⟨by have h_ := H.out; rw [if_pos c1] at h_; exact Option.some.inj h_⟩
      clear c1
      go_wp2
      go_meet
      case rel => exact ⟨true, by first | rfl | simp, ⟨fun _ => H2.out⟩, ⟨fun h_ => by simp at h_⟩, S8⟩
    · have c1b := decide_eq_false c1
      have c1f := Aside0.mk c1
      have H2 := H.out
      rw [if_neg c1] at H2
      clear c1
      by_cases c2 : a2 < 0
      · have c2b := decide_eq_true c2
        rw [if_pos c2] at H2
        have H3 := Aside0.mk (Option.some.inj H2)
        clear c2 H2
        go_wp2
        go_meet
        case rel => exact ⟨true, by first | rfl | simp, ⟨fun _ => H3.out⟩, ⟨fun h_ => by simp at h_⟩, S8⟩
      · have c2b := decide_eq_false c2
        have c2f := Aside0.mk c2
        rw [if_neg c2] at H2
        clear c2
        obtain ⟨tt, AO, H2⟩ := Option.bind_eq_some_iff.mp H2
        have AO := Aside0.mk AO
        have H3 := Aside0.mk H2
        clear H2
        have hr_0 : w8.cell? ⟨g3, 0, none⟩ = some (.int .i64 a0_0) := (blk_cell K38.out 0).trans rfl
        have hr_1 : w8.cell? ⟨g3, 1, none⟩ = some (.int .i64 a0_1) := (blk_cell K38.out 1).trans rfl
        have hr_2 : w8.cell? ⟨g3, 2, none⟩ = some (.slice A0_2 l0_2.length c0_2) := (blk_cell K38.out 2).trans rfl
        go_wp2_with (first | (go_at_call 14; (with_reducible refine (impl_RowOk.calls k a0_0 a0_1 _ _ l0_2 tt _ (Kd.C_below HR.out S8.out.below) HC.out AO.out).mono ?_); rintro e w22 ⟨rfl, hb⟩; have S9 := Aside0.mk (S8.out.step hb); clear hb hr_0 hr_1 hr_2 hl4))
        go_meet
        case rel => exact ⟨(!tt), qf1_, ⟨fun h_ => by have h2_ := H3.out; cases tt with | true => simp at h_ | false => exact Option.some.inj h2_⟩, ⟨fun h_ => by have h2_ := H3.out; cases tt with | true => (exact ⟨by have := c1f.out; omega, by have := c2f.out; omega, h2_⟩) | false => simp at h_⟩, S9⟩
  case rest =>
    obtain ⟨x21, rfl, HT, HF, S⟩ := hcut
    clear S8 H AC K38
    cases x21 with
    | true =>
      have E := Aside0.mk (HT.out rfl)
      clear HT HF
      have h7_0 : wc.cell? ⟨g7, 0, none⟩ = some (.int .i64 t0) := (blk_cell S.out.b7 0).trans rfl
      have h7_1 : wc.cell? ⟨g7, 1, none⟩ = some (.int .i64 t1) := (blk_cell S.out.b7 1).trans rfl
      have h7_2 : wc.cell? ⟨g7, 2, none⟩ = some (.slice Ao l.length co) := (blk_cell S.out.b7 2).trans rfl
      have h6_0 : wc.cell? ⟨g6, 0, none⟩ = some (.int .i64 0) := (blk_cell S.out.b6 0).trans rfl
      have h6_1 : wc.cell? ⟨g6, 1, none⟩ = some (.int .i64 0) := (blk_cell S.out.b6 1).trans rfl
      have h6_2 : wc.cell? ⟨g6, 2, none⟩ = some (.slice none 0 0) := (blk_cell S.out.b6 2).trans rfl
      have z6_0 := blk_frozen S.out.b6 0
      have z6_1 := blk_frozen S.out.b6 1
      have z6_2 := blk_frozen S.out.b6 2
      go_wp2_with (first | ((with_reducible refine gate_store (t := 26) (p := 6) rfl ?_); refine store_event (t := 26) (p := 6) (v := ?vo_we1) (w1 := (((wc.setCell ⟨g6, 0, none⟩ (.int .i64 t0)).setCell ⟨g6, 1, none⟩ (.int .i64 t1)).setCell ⟨g6, 2, none⟩ (.slice Ao l.length co))) ?hg ?ho ?hn ?hr ?_; (case ho => rfl); (case hg => rfl); (case hn => rfl); (case hr => first | (go_simp; done) | (go_simp; rfl)); intro we hw; have K6e : Aside0 (we.heap[g6]? = some (.cells #[.int .i64 t0, .int .i64 t1, .slice Ao l.length co] 26 (0, 0))) := ⟨by rw [hw]; exact blk_put (blk_put (blk_put S.out.b6 0 _ rfl) 1 _ rfl) 2 _ rfl⟩; have Re : Aside0 (Kd.R k_Item 33 we w.heap.size (fun _ => True) (.slice Ao l.length co) l) := ⟨by rw [hw]; exact Kd.R_mono (Kd.R_far (p := ⟨g6, 2, none⟩) (Kd.R_far (p := ⟨g6, 1, none⟩) (Kd.R_far (p := ⟨g6, 0, none⟩) (Kd.R_types S.out.row S.out.b6 (by decide)) (fun _ hk => hk.2) _) (fun _ hk => hk.2) _) (fun _ hk => hk.2) _) (fun _ _ => trivial)⟩; have Be : Aside0 (Below w.heap.size w we) := ⟨by rw [hw]; exact below_set (below_set (below_set S.out.below S.out.ge6) S.out.ge6) S.out.ge6⟩; clear hw))
      refine bodyPost_ret (results_cell_row rfl _ _ g6 26 #[.int .i64 t0, .int .i64 t1, .slice Ao l.length co] (0, 0) _ rfl K6e.out Try.underlying26 rfl (by kernel_rfl)) rfl ?_
      obtain ⟨rfl, rfl, rfl⟩ : t0 = r1 ∧ t1 = r2 ∧ l = r3 := by have h_ := E.out; simpa using h_
      exact ⟨_, rfl, Re.out, Be.out⟩
    | false =>
      obtain ⟨hn1, hk0, HL⟩ := HF.out rfl
      have HN := Aside0.mk hn1
      have HK := Aside0.mk hk0
      have HL := Aside0.mk HL
      clear HT HF hn1 hk0
      go_wp2
      go_loopg [8] k (fun kq v8 wr => ∃ (a : Int) (A : Option Addr) (c : Nat) (l' : List S_Item), Aside0 (impl_RowTrim.l0 a1 a2 t1 kq a l' = some (r1, r2, r3)) ∧ Aside0 (kq ≤ k) ∧ Aside0 (TrimS w wr g4 g6 g7 a1 a t1 (.slice A l'.length c) l'))
      case atStart => exact ⟨t0, Ao, co, l, HL, ⟨Nat.le_refl _⟩, S⟩
      case round =>
        clear HL S
        obtain ⟨a, A, c, l', HA, HK1, S⟩ := hrel
        cases gk with
        | zero => exact absurd HA.out (by simp [impl_RowTrim.l0])
        | succ k1 =>
          have H := HA.out
          clear HA
          simp only [impl_RowTrim.l0] at H
          have hl4 : wr.cell? ⟨g4, 0, none⟩ = some (.int .i64 a1) := (blk_cell S.out.b4 0).trans rfl
          have h7_0 : wr.cell? ⟨g7, 0, none⟩ = some (.int .i64 a) := (blk_cell S.out.b7 0).trans rfl
          have h7_1 : wr.cell? ⟨g7, 1, none⟩ = some (.int .i64 t1) := (blk_cell S.out.b7 1).trans rfl
          have h7_2 : wr.cell? ⟨g7, 2, none⟩ = some (.slice A l'.length c) := (blk_cell S.out.b7 2).trans rfl
          by_cases c1 : (l'.length : Int) > a2
          · rw [if_pos c1] at H
            have c1b : decide ((l'.length : Int) > a2) = true := decide_eq_true c1
            have hlp : (0 : Int) < (l'.length : Int) := by have := HK.out; omega
            have hnz : ¬ a1 = 0 := by have := HN.out; omega
            have hnz2 : (a1 == 0) = false := by simp [hnz]
            obtain ⟨g, c, eg, gb, gl, cl, HG⟩ := Kd.R_form S.out.row (by omega)
            (first | cases eg | (injection eg with ea_ en_ ec_; subst ea_; subst ec_; clear en_))
            obtain ⟨ce, hcl, hM, hcc, hfr⟩ := Kd.R_elem S.out.row z_Item (0 : Int) (by omega) hlp
            obtain rfl := k_Item_openM hM
            have hx_0 : wr.cell? ⟨g, 0, none⟩ = some (.int .i64 (rd_Item l' 0).f0) := hcc 0 _ rfl
            have GB := Aside0.mk gb
            clear hcl hM hcc hfr gb gl HG
            generalize hx : (rd_Item l' 0).f0 = x at H hx_0
            clear hx
            by_cases c2 : wrap64 (Int.tdiv x a1) = wrap64 (Int.tdiv (wrap64 (t1 - 1)) a1)
            · rw [if_pos c2] at H
              have E := Aside0.mk (Option.some.inj H)
              clear H
              go_wp2
              go_quiet (fail)
              have S2 := Aside0.mk (S.out.step (pw_below_drewN (Below.refl _ _) nq))
              clear S hl4 h7_0 h7_1 h7_2 hx_0
              generalize wr.drewN nq = wd at *
              have h7_0 : wd.cell? ⟨g7, 0, none⟩ = some (.int .i64 a) := (blk_cell S2.out.b7 0).trans rfl
              have h7_1 : wd.cell? ⟨g7, 1, none⟩ = some (.int .i64 t1) := (blk_cell S2.out.b7 1).trans rfl
              have h7_2 : wd.cell? ⟨g7, 2, none⟩ = some (.slice (some ⟨g, 0, none⟩) l'.length c) := (blk_cell S2.out.b7 2).trans rfl
              have h6_0 : wd.cell? ⟨g6, 0, none⟩ = some (.int .i64 0) := (blk_cell S2.out.b6 0).trans rfl
              have h6_1 : wd.cell? ⟨g6, 1, none⟩ = some (.int .i64 0) := (blk_cell S2.out.b6 1).trans rfl
              have h6_2 : wd.cell? ⟨g6, 2, none⟩ = some (.slice none 0 0) := (blk_cell S2.out.b6 2).trans rfl
              have z6_0 := blk_frozen S2.out.b6 0
              have z6_1 := blk_frozen S2.out.b6 1
              have z6_2 := blk_frozen S2.out.b6 2
              go_wp2_with (first | ((with_reducible refine gate_store (t := 26) (p := 6) rfl ?_); refine store_event (t := 26) (p := 6) (v := ?vo_we2) (w1 := (((wd.setCell ⟨g6, 0, none⟩ (.int .i64 a)).setCell ⟨g6, 1, none⟩ (.int .i64 t1)).setCell ⟨g6, 2, none⟩ (.slice (some ⟨g, 0, none⟩) l'.length c))) ?hg ?ho ?hn ?hr ?_; (case ho => rfl); (case hg => rfl); (case hn => rfl); (case hr => first | (go_simp; done) | (go_simp; rfl)); intro we hw; have K6e : Aside0 (we.heap[g6]? = some (.cells #[.int .i64 a, .int .i64 t1, .slice (some ⟨g, 0, none⟩) l'.length c] 26 (0, 0))) := ⟨by rw [hw]; exact blk_put (blk_put (blk_put S2.out.b6 0 _ rfl) 1 _ rfl) 2 _ rfl⟩; have Re : Aside0 (Kd.R k_Item 33 we w.heap.size (fun _ => True) (.slice (some ⟨g, 0, none⟩) l'.length c) l') := ⟨qf3_⟩; have Be : Aside0 (Below w.heap.size w we) := ⟨by rw [hw]; exact below_set (below_set (below_set S2.out.below S2.out.ge6) S2.out.ge6) S2.out.ge6⟩; clear hw))
              refine bodyPost_ret (results_cell_row rfl _ _ g6 26 #[.int .i64 a, .int .i64 t1, .slice (some ⟨g, 0, none⟩) l'.length c] (0, 0) _ rfl K6e.out Try.underlying26 rfl (by kernel_rfl)) rfl ?_
              obtain ⟨rfl, rfl, rfl⟩ : a = r1 ∧ t1 = r2 ∧ l' = r3 := by have h_ := E.out; simpa using h_
              exact ⟨_, rfl, Re.out, Be.out⟩
            · rw [if_neg c2] at H
              have c2b : (wrap64 (Int.tdiv x a1) == wrap64 (Int.tdiv (wrap64 (t1 - 1)) a1)) = false := beq_eq_false_iff_ne.2 c2
              have H' := Aside0.mk H
              clear H c2
              go_wp2
              go_quiet (fail)
              have S2 := Aside0.mk (S.out.step (pw_below_drewN (Below.refl _ _) nq))
              have hx_0' : (wr.drewN nq).cell? ⟨g, 0, none⟩ = some (.int .i64 x) := hx_0
              clear S hl4 h7_0 h7_1 h7_2 hx_0
              generalize wr.drewN nq = wd at *
              have hl4 : wd.cell? ⟨g4, 0, none⟩ = some (.int .i64 a1) := (blk_cell S2.out.b4 0).trans rfl
              have h7_2 : wd.cell? ⟨g7, 2, none⟩ = some (.slice (some ⟨g, 0, none⟩) l'.length c) := (blk_cell S2.out.b7 2).trans rfl
              have hlp2 : 0 < l'.length := by omega
              have ha_4 : (wd.alloc (.cells #[.int .i64 0] 3 (0, 0))).cell? ⟨g4, 0, none⟩ = some (.int .i64 a1) := (blk_cell (blk_alloc S2.out.b4 _) 0).trans rfl
              have ha_7 : (wd.alloc (.cells #[.int .i64 0] 3 (0, 0))).cell? ⟨g7, 2, none⟩ = some (.slice (some ⟨g, 0, none⟩) l'.length c) := (blk_cell (blk_alloc S2.out.b7 _) 2).trans rfl
              have ha_0 : (wd.alloc (.cells #[.int .i64 0] 3 (0, 0))).cell? ⟨g, 0, none⟩ = some (.int .i64 x) := pw_cell_below (below_alloc (Below.refl _ _) _) hx_0'
              go_wp2
              go_region
              have S5 := Aside0.mk (S2.out.step (W1 := (wd.alloc (.cells #[.int .i64 (wrap64 (Int.tdiv x a1))] 3 (0, 0))).drew) (below_drew (below_alloc (Below.refl _ _) _)))
              have K8 : Aside0 ((wd.alloc (.cells #[.int .i64 (wrap64 (Int.tdiv x a1))] 3 (0, 0))).drew.heap[wd.heap.size]? = some (.cells #[.int .i64 (wrap64 (Int.tdiv x a1))] 3 (0, 0))) := ⟨blk_drew (blk_new _ _)⟩
              clear S2 hx_0' hl4 h7_2 ha_4 ha_7 ha_0
              generalize (wd.alloc (.cells #[.int .i64 (wrap64 (Int.tdiv x a1))] 3 (0, 0))).drew = w5 at *
              generalize wd.heap.size = g8 at *
              generalize wrap64 (Int.tdiv x a1) = bk at *
              have h7_2 : w5.cell? ⟨g7, 2, none⟩ = some (.slice (some ⟨g, 0, none⟩) l'.length c) := (blk_cell S5.out.b7 2).trans rfl
              go_wp2_with (first | (go_at_call 54; refine (trimDel g4 g8 a1 bk HN.out w.heap.size (fun _ => True) g c l' w5 S5.out.b4 K8.out S5.out.row).mono ?_; rintro e w6 ⟨rfl, hr6, hg6⟩; have n4 : some g4 ≠ (some g : Option Nat) := (fun e => Kd.R_ne S5.out.row S5.out.b4 (by decide) (qf9_)); have n6 : some g6 ≠ (some g : Option Nat) := (fun e => Kd.R_ne S5.out.row S5.out.b6 (by decide) (qf9_)); have n7 : some g7 ≠ (some g : Option Nat) := (fun e => Kd.R_ne S5.out.row S5.out.b7 (by decide) (qf9_)); have n8 : some g8 ≠ (some g : Option Nat) := (fun e => Kd.R_ne S5.out.row K8.out (by decide) (qf9_)); have K46 := Aside0.mk (blk_grown S5.out.b4 hg6 n4); have K66 := Aside0.mk (blk_grown S5.out.b6 hg6 n6); have K76 := Aside0.mk (blk_grown S5.out.b7 hg6 n7); have K86 := Aside0.mk (blk_grown K8.out hg6 n8); have B6 := Aside0.mk (S5.out.below.grown hg6 S5.out.below.size (fun k hk => by cases hk; exact GB.out)); have R6 := Aside0.mk hr6; have G4 := Aside0.mk S5.out.ge4; have G6 := Aside0.mk S5.out.ge6; have G7 := Aside0.mk S5.out.ge7; have N67' := Aside0.mk S5.out.ne; have h76 : w6.cell? ⟨g7, 2, none⟩ = some (.slice (some ⟨g, 0, none⟩) l'.length c) := (blk_cell K76.out 2).trans rfl; have z76 := blk_frozen K76.out 2; clear h7_2 hr6 hg6 S5 K8 n4 n6 n7 n8) | ((with_reducible refine gate_store (t := 24) (p := 54) rfl ?_); refine store_event (t := 24) (p := 54) (v := ?vo_w7) (w1 := (w6.setCell ⟨g7, 2, none⟩ (.slice (some ⟨g, 0, none⟩) (kept a1 bk l').length c))) ?hg ?ho ?hn ?hr ?_; (case ho => rfl); (case hg => rfl); (case hn => rfl); (case hr => first | (go_simp; done) | (go_simp; rfl)); intro w7 hw; have K87 : Aside0 (w7.heap[g8]? = some (.cells #[.int .i64 bk] 3 (0, 0))) := ⟨by rw [hw]; exact blk_far K86.out (fun e => blk_ne K86.out K76.out (by decide) e) _⟩; have S7 : Aside0 (TrimS w w7 g4 g6 g7 a1 a t1 (.slice (some ⟨g, 0, none⟩) (kept a1 bk l').length c) (kept a1 bk l')) := ⟨by rw [hw]; exact TrimS.mk (below_set B6.out G7.out) (blk_far K46.out (fun e => blk_ne K46.out K76.out (by decide) e) _) (blk_far K66.out N67'.out _) (blk_put K76.out 2 _ rfl) G4.out G6.out G7.out N67'.out (Kd.R_mono (Kd.R_far (p := ⟨g7, 2, none⟩) (Kd.R_types R6.out K76.out (by decide)) (fun _ hk => hk.2) _) (fun _ _ => trivial))⟩; have hl_8 : w7.cell? ⟨g8, 0, none⟩ = some (.int .i64 bk) := (blk_cell K87.out 0).trans rfl; have hl_4 : w7.cell? ⟨g4, 0, none⟩ = some (.int .i64 a1) := (blk_cell S7.out.b4 0).trans rfl; have h7_0 : w7.cell? ⟨g7, 0, none⟩ = some (.int .i64 a) := (blk_cell S7.out.b7 0).trans rfl; have z7_0 := blk_frozen S7.out.b7 0; clear hw h76 z76 K46 K66 K76 K86 B6 R6) | ((with_reducible refine gate_store (t := 3) (p := 59) rfl ?_); refine store_event (t := 3) (p := 59) (v := ?vo_w9) (w1 := (w7.setCell ⟨g7, 0, none⟩ (.int .i64 (wrap64 (wrap64 (bk + 1) * a1))))) ?hg ?ho ?hn ?hr ?_; (case ho => rfl); (case hg => rfl); (case hn => rfl); (case hr => first | (go_simp; done) | (go_simp; rfl)); intro w8' hw; have S8 : Aside0 (TrimS w w8' g4 g6 g7 a1 (wrap64 (wrap64 (bk + 1) * a1)) t1 (.slice (some ⟨g, 0, none⟩) (kept a1 bk l').length c) (kept a1 bk l')) := ⟨by rw [hw]; exact S7.out.set 0 _ rfl S7.out.row⟩; clear hw hl_8 hl_4 h7_0 z7_0 S7 K87))
              go_roundg k1
              case measure => have := HK1.out; omega
              case rel => exact ⟨_, _, _, _, H', ⟨by have := HK1.out; omega⟩, S8⟩
          · rw [if_neg c1] at H
            have c1b : decide ((l'.length : Int) > a2) = false := decide_eq_false c1
            have E := Aside0.mk (Option.some.inj H)
            clear c1 H
            go_wp2
            go_quiet (fail)
            have S2 := Aside0.mk (S.out.step (pw_below_drewN (Below.refl _ _) nq))
            clear S hl4 h7_0 h7_1 h7_2
            generalize wr.drewN nq = wd at *
            have h7_0 : wd.cell? ⟨g7, 0, none⟩ = some (.int .i64 a) := (blk_cell S2.out.b7 0).trans rfl
            have h7_1 : wd.cell? ⟨g7, 1, none⟩ = some (.int .i64 t1) := (blk_cell S2.out.b7 1).trans rfl
            have h7_2 : wd.cell? ⟨g7, 2, none⟩ = some (.slice A l'.length c) := (blk_cell S2.out.b7 2).trans rfl
            have h6_0 : wd.cell? ⟨g6, 0, none⟩ = some (.int .i64 0) := (blk_cell S2.out.b6 0).trans rfl
            have h6_1 : wd.cell? ⟨g6, 1, none⟩ = some (.int .i64 0) := (blk_cell S2.out.b6 1).trans rfl
            have h6_2 : wd.cell? ⟨g6, 2, none⟩ = some (.slice none 0 0) := (blk_cell S2.out.b6 2).trans rfl
            have z6_0 := blk_frozen S2.out.b6 0
            have z6_1 := blk_frozen S2.out.b6 1
            have z6_2 := blk_frozen S2.out.b6 2
            go_wp2_with (first | ((with_reducible refine gate_store (t := 26) (p := 6) rfl ?_); refine store_event (t := 26) (p := 6) (v := ?vo_we3) (w1 := (((wd.setCell ⟨g6, 0, none⟩ (.int .i64 a)).setCell ⟨g6, 1, none⟩ (.int .i64 t1)).setCell ⟨g6, 2, none⟩ (.slice A l'.length c))) ?hg ?ho ?hn ?hr ?_; (case ho => rfl); (case hg => rfl); (case hn => rfl); (case hr => first | (go_simp; done) | (go_simp; rfl)); intro we hw; have K6e : Aside0 (we.heap[g6]? = some (.cells #[.int .i64 a, .int .i64 t1, .slice A l'.length c] 26 (0, 0))) := ⟨by rw [hw]; exact blk_put (blk_put (blk_put S2.out.b6 0 _ rfl) 1 _ rfl) 2 _ rfl⟩; have Re : Aside0 (Kd.R k_Item 33 we w.heap.size (fun _ => True) (.slice A l'.length c) l') := ⟨qf3_⟩; have Be : Aside0 (Below w.heap.size w we) := ⟨by rw [hw]; exact below_set (below_set (below_set S2.out.below S2.out.ge6) S2.out.ge6) S2.out.ge6⟩; clear hw))
            refine bodyPost_ret (results_cell_row rfl _ _ g6 26 #[.int .i64 a, .int .i64 t1, .slice A l'.length c] (0, 0) _ rfl K6e.out Try.underlying26 rfl (by kernel_rfl)) rfl ?_
            obtain ⟨rfl, rfl, rfl⟩ : a = r1 ∧ t1 = r2 ∧ l' = r3 := by have h_ := E.out; simpa using h_
            exact ⟨_, rfl, Re.out, Be.out⟩
section
attribute [local go_sem high] eqA_Item
/-! ### laws_FnTrimmed: function 3 -/
abbrev laws_FnTrimmed.m0 : Array Bool := #[f_,f_,f_,f_,f_,f_,f_,f_,f_,f_,f_,f_,f_]
abbrev laws_FnTrimmed.m1 : Array Bool := #[t_,f_,f_,f_,f_,f_,f_,f_,f_,f_,f_,f_,f_]
abbrev laws_FnTrimmed.m2 : Array Bool := #[t_,f_,t_,f_,f_,f_,f_,f_,f_,f_,f_,f_,f_]
abbrev laws_FnTrimmed.m3 : Array Bool := #[t_,f_,t_,f_,f_,t_,f_,f_,f_,f_,f_,f_,f_]
abbrev laws_FnTrimmed.m4 : Array Bool := #[t_,f_,t_,f_,f_,t_,f_,t_,f_,f_,f_,f_,f_]
abbrev laws_FnTrimmed.m5 : Array Bool := #[t_,f_,t_,f_,f_,t_,f_,t_,t_,f_,f_,f_,f_]
abbrev laws_FnTrimmed.m6 : Array Bool := #[t_,f_,t_,f_,f_,t_,f_,t_,t_,t_,f_,f_,f_]
abbrev laws_FnTrimmed.m7 : Array Bool := #[t_,t_,t_,f_,f_,t_,f_,t_,t_,t_,f_,f_,f_]
abbrev laws_FnTrimmed.m8 : Array Bool := #[t_,t_,t_,t_,f_,t_,f_,t_,t_,t_,f_,f_,f_]
abbrev laws_FnTrimmed.m9 : Array Bool := #[t_,t_,t_,t_,t_,t_,f_,t_,t_,t_,f_,f_,f_]
abbrev laws_FnTrimmed.m10 : Array Bool := #[t_,t_,t_,t_,t_,t_,t_,t_,t_,t_,f_,f_,f_]
abbrev laws_FnTrimmed.m11 : Array Bool := #[t_,t_,t_,t_,t_,t_,t_,t_,t_,t_,t_,f_,f_]
abbrev laws_FnTrimmed.m12 : Array Bool := #[t_,t_,t_,t_,t_,t_,t_,t_,t_,t_,t_,t_,f_]
abbrev laws_FnTrimmed.m13 : Array Bool := #[t_,t_,t_,t_,t_,t_,t_,t_,t_,t_,t_,t_,t_]
abbrev laws_FnTrimmed.m14 : Array Bool := #[f_,f_,f_,f_,f_,f_,f_,f_,f_,f_,f_,f_,f_,f_,f_,f_,f_,f_,f_,f_,f_,f_,f_,f_,f_,f_,f_]
abbrev laws_FnTrimmed.m15 : Array Bool := #[t_,f_,f_,f_,f_,f_,f_,f_,f_,f_,f_,f_,f_,f_,f_,f_,f_,f_,f_,f_,f_,f_,f_,f_,f_,f_,f_]
abbrev laws_FnTrimmed.m16 : Array Bool := #[t_,f_,f_,t_,f_,f_,f_,f_,f_,f_,f_,f_,f_,f_,f_,f_,f_,f_,f_,f_,f_,f_,f_,f_,f_,f_,f_]
abbrev laws_FnTrimmed.m17 : Array Bool := #[t_,t_,f_,t_,f_,f_,f_,f_,f_,f_,f_,f_,f_,f_,f_,f_,f_,f_,f_,f_,f_,f_,f_,f_,f_,f_,f_]
abbrev laws_FnTrimmed.m18 : Array Bool := #[t_,t_,t_,t_,f_,f_,f_,f_,f_,f_,f_,f_,f_,f_,f_,f_,f_,f_,f_,f_,f_,f_,f_,f_,f_,f_,f_]
abbrev laws_FnTrimmed.m19 : Array Bool := #[t_,t_,t_,t_,t_,f_,f_,f_,f_,f_,f_,f_,f_,f_,f_,f_,f_,f_,f_,f_,f_,f_,f_,f_,f_,f_,f_]
abbrev laws_FnTrimmed.m20 : Array Bool := #[t_,t_,t_,t_,t_,t_,f_,f_,f_,f_,f_,f_,f_,f_,f_,f_,f_,f_,f_,f_,f_,f_,f_,f_,f_,f_,f_]
abbrev laws_FnTrimmed.m21 : Array Bool := #[t_,t_,t_,t_,t_,t_,t_,f_,f_,f_,f_,f_,f_,f_,f_,f_,f_,f_,f_,f_,f_,f_,f_,f_,f_,f_,f_]
abbrev laws_FnTrimmed.m22 : Array Bool := #[t_,t_,t_,t_,t_,t_,t_,t_,f_,f_,f_,f_,f_,f_,f_,f_,f_,f_,f_,f_,f_,f_,f_,f_,f_,f_,f_]
abbrev laws_FnTrimmed.m23 : Array Bool := #[t_,t_,t_,t_,t_,t_,t_,t_,t_,f_,f_,f_,f_,f_,f_,f_,f_,f_,f_,f_,f_,f_,f_,f_,f_,f_,f_]
abbrev laws_FnTrimmed.m24 : Array Bool := #[t_,t_,t_,t_,t_,t_,t_,t_,t_,t_,f_,f_,f_,f_,f_,f_,f_,f_,f_,f_,f_,f_,f_,f_,f_,f_,f_]
abbrev laws_FnTrimmed.m25 : Array Bool := #[t_,t_,t_,t_,t_,t_,t_,t_,t_,t_,t_,f_,f_,f_,f_,f_,f_,f_,f_,f_,f_,f_,f_,f_,f_,f_,f_]
abbrev laws_FnTrimmed.m26 : Array Bool := #[t_,t_,t_,t_,t_,t_,t_,t_,t_,t_,t_,t_,f_,f_,f_,f_,f_,f_,f_,f_,f_,f_,f_,f_,f_,f_,f_]
abbrev laws_FnTrimmed.m27 : Array Bool := #[t_,t_,t_,t_,t_,t_,t_,t_,t_,t_,t_,t_,t_,f_,f_,f_,f_,f_,f_,f_,f_,f_,f_,f_,f_,f_,f_]
abbrev laws_FnTrimmed.m28 : Array Bool := #[t_,t_,t_,t_,t_,t_,t_,t_,t_,t_,t_,t_,t_,t_,f_,f_,f_,f_,f_,f_,f_,f_,f_,f_,f_,f_,f_]
abbrev laws_FnTrimmed.m29 : Array Bool := #[t_,t_,t_,t_,t_,t_,t_,t_,t_,t_,t_,t_,t_,t_,t_,f_,f_,f_,f_,f_,f_,f_,f_,f_,f_,f_,f_]
abbrev laws_FnTrimmed.m30 : Array Bool := #[t_,t_,t_,t_,t_,t_,t_,t_,t_,t_,t_,t_,t_,t_,t_,t_,f_,f_,f_,f_,f_,f_,f_,f_,f_,f_,f_]
abbrev laws_FnTrimmed.m31 : Array Bool := #[t_,t_,t_,t_,t_,t_,t_,t_,t_,t_,t_,t_,t_,t_,t_,t_,t_,f_,f_,f_,f_,f_,f_,f_,f_,f_,f_]
abbrev laws_FnTrimmed.m32 : Array Bool := #[t_,t_,t_,t_,t_,t_,t_,t_,t_,t_,t_,t_,t_,t_,t_,t_,t_,t_,f_,f_,f_,f_,f_,f_,f_,f_,f_]
abbrev laws_FnTrimmed.m33 : Array Bool := #[t_,t_,t_,t_,t_,t_,t_,t_,t_,t_,t_,t_,t_,t_,t_,t_,t_,t_,t_,f_,f_,f_,f_,f_,f_,f_,f_]
abbrev laws_FnTrimmed.m34 : Array Bool := #[t_,t_,t_,t_,t_,t_,t_,t_,t_,t_,t_,t_,t_,t_,t_,t_,t_,t_,t_,t_,f_,f_,f_,f_,f_,f_,f_]
abbrev laws_FnTrimmed.m35 : Array Bool := #[t_,t_,t_,t_,t_,t_,t_,t_,t_,t_,t_,t_,t_,t_,t_,t_,t_,t_,t_,t_,t_,f_,f_,f_,f_,f_,f_]
abbrev laws_FnTrimmed.m36 : Array Bool := #[t_,t_,t_,t_,t_,t_,t_,t_,t_,t_,t_,t_,t_,t_,t_,t_,t_,t_,t_,t_,t_,t_,f_,f_,f_,f_,f_]
abbrev laws_FnTrimmed.m37 : Array Bool := #[t_,t_,t_,t_,t_,t_,t_,t_,t_,t_,t_,t_,t_,t_,t_,t_,t_,t_,t_,t_,t_,t_,t_,f_,f_,f_,f_]
abbrev laws_FnTrimmed.m38 : Array Bool := #[t_,t_,t_,t_,t_,t_,t_,t_,t_,t_,t_,t_,t_,t_,t_,t_,t_,t_,t_,t_,t_,t_,t_,t_,f_,f_,f_]
abbrev laws_FnTrimmed.m39 : Array Bool := #[t_,t_,t_,t_,t_,t_,t_,t_,t_,t_,t_,t_,t_,t_,t_,t_,t_,t_,t_,t_,t_,t_,t_,t_,t_,f_,f_]
abbrev laws_FnTrimmed.m40 : Array Bool := #[t_,t_,t_,t_,t_,t_,t_,t_,t_,t_,t_,t_,t_,t_,t_,t_,t_,t_,t_,t_,t_,t_,t_,t_,t_,t_,f_]
abbrev laws_FnTrimmed.m41 : Array Bool := #[t_,t_,t_,t_,t_,t_,t_,t_,t_,t_,t_,t_,t_,t_,t_,t_,t_,t_,t_,t_,t_,t_,t_,t_,t_,t_,t_]
mutual
def laws_FnTrimmed.j0 : Nat → Int → Int → Bool → Int → Int → List (S_Item) → Int → Int → List (S_Item) → Option (Bool)
 | 0, _, _, _, _, _, _, _, _, _ => none
 | k + 1, x4, x5, x38, x1185000, x1185001, x1185002, x1191000, x1191001, x1191002 => if x38 = true then ((laws_sameRow.f k x1191000 x1191001 x1191002 x1185000 x1185001 x1185002).bind fun t1198 => (some t1198)) else ((impl_RowOk.f k x1191000 x1191001 x1191002).bind fun t1199 => (if t1199 = true then (if (wrap64 ((x1185002.length : Int) - (x1191002.length : Int))) < 0 then (laws_FnTrimmed.j1 k x4 x5 (wrap64 ((x1185002.length : Int) - (x1191002.length : Int))) true x1185000 x1185001 x1185002 x1191000 x1191001 x1191002) else (if x1191001 = x1185001 then (if x1191000 < x1185000 then (laws_FnTrimmed.j1 k x4 x5 (wrap64 ((x1185002.length : Int) - (x1191002.length : Int))) true x1185000 x1185001 x1185002 x1191000 x1191001 x1191002) else (if (wrap64 ((x1185002.length : Int) - (x1191002.length : Int))) > 0 then (if x4 = 0 then (none) else (laws_FnTrimmed.j1 k x4 x5 (wrap64 ((x1185002.length : Int) - (x1191002.length : Int))) ((Int.tmod x1191000 x4) != 0) x1185000 x1185001 x1185002 x1191000 x1191001 x1191002)) else (laws_FnTrimmed.j1 k x4 x5 (wrap64 ((x1185002.length : Int) - (x1191002.length : Int))) false x1185000 x1185001 x1185002 x1191000 x1191001 x1191002))) else (laws_FnTrimmed.j1 k x4 x5 (wrap64 ((x1185002.length : Int) - (x1191002.length : Int))) true x1185000 x1185001 x1185002 x1191000 x1191001 x1191002))) else (laws_FnTrimmed.j1 k x4 x5 (wrap64 ((x1185002.length : Int) - (x1191002.length : Int))) true x1185000 x1185001 x1185002 x1191000 x1191001 x1191002)))
def laws_FnTrimmed.j1 : Nat → Int → Int → Int → Bool → Int → Int → List (S_Item) → Int → Int → List (S_Item) → Option (Bool)
 | 0, _, _, _, _, _, _, _, _, _, _ => none
 | k + 1, x4, x5, x7, x80, x1185000, x1185001, x1185002, x1191000, x1191001, x1191002 => if x80 = true then (some false) else (laws_FnTrimmed.l0 k x4 x5 x7 0 x1185000 x1185001 x1185002 x1191000 x1191001 x1191002)
def laws_FnTrimmed.l0 : Nat → Int → Int → Int → Int → Int → Int → List (S_Item) → Int → Int → List (S_Item) → Option (Bool)
 | 0, _, _, _, _, _, _, _, _, _, _ => none
 | k + 1, x4, x5, x7, x8, x1185000, x1185001, x1185002, x1191000, x1191001, x1191002 => if x8 < (x1191002.length : Int) then (if 0 ≤ x8 then (if 0 ≤ (wrap64 (x7 + x8)) then (if (wrap64 (x7 + x8)) < (x1185002.length : Int) then (if (!(((rd_Item x1191002 x8).f0) == ((rd_Item x1185002 (wrap64 (x7 + x8))).f0)) || (!((((rd_Item x1191002 x8).f1).toList) == (((rd_Item x1185002 (wrap64 (x7 + x8))).f1).toList)) || (!((((rd_Item x1191002 x8).f2).toList) == (((rd_Item x1185002 (wrap64 (x7 + x8))).f2).toList)) || (!(((rd_Item x1191002 x8).f3) == ((rd_Item x1185002 (wrap64 (x7 + x8))).f3)) || (!(((rd_Item x1191002 x8).f4) == ((rd_Item x1185002 (wrap64 (x7 + x8))).f4))))))) = true then (some false) else (laws_FnTrimmed.l0 k x4 x5 x7 (wrap64 (x8 + 1)) x1185000 x1185001 x1185002 x1191000 x1191001 x1191002)) else (none)) else (none)) else (none)) else (if (x1191002.length : Int) ≤ x5 then (some true) else (if (x1191002.length : Int) > 0 then (if 0 < (x1191002.length : Int) then (if x4 = 0 then (none) else (some ((wrap64 (Int.tdiv ((rd_Item x1191002 0).f0) x4)) == (wrap64 (Int.tdiv (wrap64 (x1191001 - 1)) x4))))) else (none)) else (some false)))
end
def laws_FnTrimmed.f (k : Nat) (l0 : List Int) : Option (Bool) := (laws_big.f l0).bind fun t1176 => (if t1176 = true then (some true) else ((spec_DrawRowTrim.f k l0).bind fun bt1177 => ((impl_RowTrim.f k bt1177.1 bt1177.2.1 bt1177.2.2.1 bt1177.2.2.2.1 bt1177.2.2.2.2).bind fun bt1185 => ((spec_RowTrim.f k bt1177.1 bt1177.2.1 bt1177.2.2.1 bt1177.2.2.2.1 bt1177.2.2.2.2).bind fun bt1191 => ((laws_sameRow.f k bt1185.1 bt1185.2.1 bt1185.2.2 bt1191.1 bt1191.2.1 bt1191.2.2).bind fun t1196 => (if t1196 = true then (if bt1177.2.2.2.1 < 1 then (laws_FnTrimmed.j0 k bt1177.2.2.2.1 bt1177.2.2.2.2 true bt1177.1 bt1177.2.1 bt1177.2.2.1 bt1185.1 bt1185.2.1 bt1185.2.2) else (if bt1177.2.2.2.2 < 0 then (laws_FnTrimmed.j0 k bt1177.2.2.2.1 bt1177.2.2.2.2 true bt1177.1 bt1177.2.1 bt1177.2.2.1 bt1185.1 bt1185.2.1 bt1185.2.2) else ((impl_RowOk.f k bt1177.1 bt1177.2.1 bt1177.2.2.1).bind fun t1197 => (laws_FnTrimmed.j0 k bt1177.2.2.2.1 bt1177.2.2.2.2 (!t1197) bt1177.1 bt1177.2.1 bt1177.2.2.1 bt1185.1 bt1185.2.1 bt1185.2.2)))) else (some false)))))))
theorem laws_FnTrimmed.mono_l : ∀ k, (∀ y0 y1 y2 y3 y4 y5 y6 y7 y8, LeO (laws_FnTrimmed.j0 k y0 y1 y2 y3 y4 y5 y6 y7 y8) (laws_FnTrimmed.j0 (k + 1) y0 y1 y2 y3 y4 y5 y6 y7 y8)) ∧ (∀ y0 y1 y2 y3 y4 y5 y6 y7 y8 y9, LeO (laws_FnTrimmed.j1 k y0 y1 y2 y3 y4 y5 y6 y7 y8 y9) (laws_FnTrimmed.j1 (k + 1) y0 y1 y2 y3 y4 y5 y6 y7 y8 y9)) ∧ (∀ y0 y1 y2 y3 y4 y5 y6 y7 y8 y9, LeO (laws_FnTrimmed.l0 k y0 y1 y2 y3 y4 y5 y6 y7 y8 y9) (laws_FnTrimmed.l0 (k + 1) y0 y1 y2 y3 y4 y5 y6 y7 y8 y9))
 | 0 => ⟨fun _ _ _ _ _ _ _ _ _ r h => by simp [laws_FnTrimmed.j0] at h, fun _ _ _ _ _ _ _ _ _ _ r h => by simp [laws_FnTrimmed.j1] at h, fun _ _ _ _ _ _ _ _ _ _ r h => by simp [laws_FnTrimmed.l0] at h⟩
 | k + 1 => by
  obtain ⟨ih0, ih1, ih2⟩ := laws_FnTrimmed.mono_l k
  refine ⟨?_, ?_, ?_⟩
  ·
   intro y0 y1 y2 y3 y4 y5 y6 y7 y8
   unfold laws_FnTrimmed.j0
   exact qfh1_
  ·
   intro y0 y1 y2 y3 y4 y5 y6 y7 y8 y9
   unfold laws_FnTrimmed.j1
   exact qfh1_
  ·
   intro y0 y1 y2 y3 y4 y5 y6 y7 y8 y9
   unfold laws_FnTrimmed.l0
   exact qfh1_
theorem laws_FnTrimmed.mono : ∀ a0 k, LeO (laws_FnTrimmed.f k a0) (laws_FnTrimmed.f (k + 1) a0) := by
 intro a0 k
 obtain ⟨ih0, ih1, ih2⟩ := laws_FnTrimmed.mono_l k
 unfold laws_FnTrimmed.f
 exact qfh1_
def laws_FnTrimmed.T15 : Bool × List (List Nat × List Nat) := (true, [([], []), ([0], [0]), ([], []), ([1, 2], [1, 2]), ([3], [3]), ([], []), ([5], [5]), ([], []), ([], []), ([7, 8], [7, 8]), ([6, 9], [6, 9]), ([10], [10]), ([4, 11], [4, 11])])
def laws_FnTrimmed.B15 : List Nat := [0, 1, 0, 7, 15, 0, 32, 0, 0, 384, 992, 2016, 4095]
theorem laws_FnTrimmed.tab15 : rtab .any (opsOf Try.f3 15) = laws_FnTrimmed.T15 := by kernel_rfl
theorem laws_FnTrimmed.bits15 : waitsOk laws_FnTrimmed.T15.2 laws_FnTrimmed.B15 = true := by kernel_rfl
def laws_FnTrimmed.T17 : Bool × List (List Nat × List Nat) := (true, [([], []), ([0], [0]), ([1], [1]), ([], []), ([2, 3], [2, 3]), ([4], [4]), ([5], [5]), ([6, 5], [5, 6]), ([7, 5], [5, 7]), ([8, 5], [5, 8]), ([9, 5, 5], [5, 9]), ([10], [10]), ([11, 10], [10, 11]), ([12, 10], [10, 12]), ([13, 10], [10, 13]), ([14, 10], [10, 14]), ([10], [10]), ([15, 16, 10], [10, 15, 16]), ([10], [10]), ([18, 10], [10, 18]), ([19, 10], [10, 19]), ([10], [10]), ([20, 21, 10], [10, 20, 21]), ([17, 22, 10], [10, 17, 22]), ([10, 23, 5], [5, 10, 23]), ([5, 24], [5, 24]), ([25, 10, 0, 1, 2, 3, 4, 5, 6, 7, 8, 9, 10, 11, 12, 13, 14, 15, 16, 17, 18, 19, 20, 21, 22, 23, 24, 25], [25])])
def laws_FnTrimmed.B17 : List Nat := [0, 1, 3, 0, 15, 31, 63, 127, 255, 511, 1023, 2047, 4095, 8191, 16383, 32767, 2047, 131071, 2047, 264191, 788479, 2047, 3934207, 8388607, 16777215, 33554431, 67108863]
theorem laws_FnTrimmed.tab17 : rtab .any (opsOf Try.f3 17) = laws_FnTrimmed.T17 := by kernel_rfl
theorem laws_FnTrimmed.bits17 : waitsOk laws_FnTrimmed.T17.2 laws_FnTrimmed.B17 = true := by kernel_rfl
set_option maxHeartbeats 8000000 in
set_option maxRecDepth 100000 in
theorem laws_FnTrimmed.calls (k : Nat) (A0 : Option Addr) (c0 : Nat) (l0 : List Int) (r : Bool) (w : World) (hr0 : Kd.C (Kd.int .u8) w A0 l0.length l0) (hc0 : l0.length ≤ c0) (h : laws_FnTrimmed.f k l0 = some r) :
 Calls Try.prog 3 #[.slice A0 l0.length c0] w fun e w' => e = .returned (.bool r) ∧ Below w.heap.size w w' := by
 have hu26 := Try.underlying26
 have hu33 := Try.underlying33
 have HR0 := Aside0.mk hr0
 have HC0 := Aside0.mk hc0
 clear hr0 hc0
 have HB := Aside0.mk (Below.refl w.heap.size w)
 have H : ((laws_big.f l0).bind fun t1176 => (if t1176 = true then (some true) else ((spec_DrawRowTrim.f k l0).bind fun bt1177 => ((impl_RowTrim.f k bt1177.1 bt1177.2.1 bt1177.2.2.1 bt1177.2.2.2.1 bt1177.2.2.2.2).bind fun bt1185 => ((spec_RowTrim.f k bt1177.1 bt1177.2.1 bt1177.2.2.1 bt1177.2.2.2.1 bt1177.2.2.2.2).bind fun bt1191 => ((laws_sameRow.f k bt1185.1 bt1185.2.1 bt1185.2.2 bt1191.1 bt1191.2.1 bt1191.2.2).bind fun t1196 => (if t1196 = true then (if bt1177.2.2.2.1 < 1 then (laws_FnTrimmed.j0 k bt1177.2.2.2.1 bt1177.2.2.2.2 true bt1177.1 bt1177.2.1 bt1177.2.2.1 bt1185.1 bt1185.2.1 bt1185.2.2) else (if bt1177.2.2.2.2 < 0 then (laws_FnTrimmed.j0 k bt1177.2.2.2.1 bt1177.2.2.2.2 true bt1177.1 bt1177.2.1 bt1177.2.2.1 bt1185.1 bt1185.2.1 bt1185.2.2) else ((impl_RowOk.f k bt1177.1 bt1177.2.1 bt1177.2.2.1).bind fun t1197 => (laws_FnTrimmed.j0 k bt1177.2.2.2.1 bt1177.2.2.2.2 (!t1197) bt1177.1 bt1177.2.1 bt1177.2.2.1 bt1185.1 bt1185.2.1 bt1185.2.2)))) else (some false)))))))) = some r := h
 clear h
 replace H := Option.bind_eq_some_iff.mp H
 obtain ⟨t1176, A20, H⟩ := H
 replace H : (if t1176 = true then (some true) else ((spec_DrawRowTrim.f k l0).bind fun bt1177 => ((impl_RowTrim.f k bt1177.1 bt1177.2.1 bt1177.2.2.1 bt1177.2.2.2.1 bt1177.2.2.2.2).bind fun bt1185 => ((spec_RowTrim.f k bt1177.1 bt1177.2.1 bt1177.2.2.1 bt1177.2.2.2.1 bt1177.2.2.2.2).bind fun bt1191 => ((laws_sameRow.f k bt1185.1 bt1185.2.1 bt1185.2.2 bt1191.1 bt1191.2.1 bt1191.2.2).bind fun t1196 => (if t1196 = true then (if bt1177.2.2.2.1 < 1 then (laws_FnTrimmed.j0 k bt1177.2.2.2.1 bt1177.2.2.2.2 true bt1177.1 bt1177.2.1 bt1177.2.2.1 bt1185.1 bt1185.2.1 bt1185.2.2) else (if bt1177.2.2.2.2 < 0 then (laws_FnTrimmed.j0 k bt1177.2.2.2.1 bt1177.2.2.2.2 true bt1177.1 bt1177.2.1 bt1177.2.2.1 bt1185.1 bt1185.2.1 bt1185.2.2) else ((impl_RowOk.f k bt1177.1 bt1177.2.1 bt1177.2.2.1).bind fun t1197 => (laws_FnTrimmed.j0 k bt1177.2.2.2.1 bt1177.2.2.2.2 (!t1197) bt1177.1 bt1177.2.1 bt1177.2.2.1 bt1185.1 bt1185.2.1 bt1185.2.2)))) else (some false))))))) = some r := H
 have A2 := Aside0.mk A20
 clear A20
 by_cases c3 : t1176 = true
 ·
  subst c3
  have H1 : (some true) = some r := by rw [if_pos rfl] at H; exact H
  clear H
  have H := H1
  clear H1
  obtain rfl := Option.some.inj H
  go_enter Try.func3, Try.ntmps3
  go_wp2_with (first | ((with_reducible refine gate_callee (f := 9) rfl ?_); refine goesL_ (some 10) rfl rfl Try.func9 (by kernel_rfl) rfl #[.slice A0 l0.length c0] rfl sm_ ?_; (with_reducible refine (laws_big.calls _ _ l0 true _ ?side1 ?side2 A2.out).mono ?_); (case side1 => repeat (first | exact HR0.out | (with_reducible refine Kd.C_alloc ?_ _) | (with_reducible refine Kd.C_drewN ?_ _) | (with_reducible refine Kd.C_drew ?_))); (case side2 => exact HC0.out); rintro e w' ⟨rfl, ⟨nd, rfl⟩⟩; refine ⟨_, rfl, ?_⟩))
  go_ret
  exact ⟨er_, hb_ HB.out⟩
 ·
  replace c3 := Bool.eq_false_iff.mpr c3
  subst c3
  have H1 : ((spec_DrawRowTrim.f k l0).bind fun bt1177 => ((impl_RowTrim.f k bt1177.1 bt1177.2.1 bt1177.2.2.1 bt1177.2.2.2.1 bt1177.2.2.2.2).bind fun bt1185 => ((spec_RowTrim.f k bt1177.1 bt1177.2.1 bt1177.2.2.1 bt1177.2.2.2.1 bt1177.2.2.2.2).bind fun bt1191 => ((laws_sameRow.f k bt1185.1 bt1185.2.1 bt1185.2.2 bt1191.1 bt1191.2.1 bt1191.2.2).bind fun t1196 => (if t1196 = true then (if bt1177.2.2.2.1 < 1 then (laws_FnTrimmed.j0 k bt1177.2.2.2.1 bt1177.2.2.2.2 true bt1177.1 bt1177.2.1 bt1177.2.2.1 bt1185.1 bt1185.2.1 bt1185.2.2) else (if bt1177.2.2.2.2 < 0 then (laws_FnTrimmed.j0 k bt1177.2.2.2.1 bt1177.2.2.2.2 true bt1177.1 bt1177.2.1 bt1177.2.2.1 bt1185.1 bt1185.2.1 bt1185.2.2) else ((impl_RowOk.f k bt1177.1 bt1177.2.1 bt1177.2.2.1).bind fun t1197 => (laws_FnTrimmed.j0 k bt1177.2.2.2.1 bt1177.2.2.2.2 (!t1197) bt1177.1 bt1177.2.1 bt1177.2.2.1 bt1185.1 bt1185.2.1 bt1185.2.2)))) else (some false)))))) = some r := by rw [if_neg (show ¬ (false = true) by decide)] at H; exact H
  clear H
  have H := H1
  clear H1
  replace H := Option.bind_eq_some_iff.mp H
  obtain ⟨⟨t1177, t1178, t1179, t1182, t1183⟩, A40, H⟩ := H
  replace H : ((impl_RowTrim.f k t1177 t1178 t1179 t1182 t1183).bind fun bt1185 => ((spec_RowTrim.f k t1177 t1178 t1179 t1182 t1183).bind fun bt1191 => ((laws_sameRow.f k bt1185.1 bt1185.2.1 bt1185.2.2 bt1191.1 bt1191.2.1 bt1191.2.2).bind fun t1196 => (if t1196 = true then (if t1182 < 1 then (laws_FnTrimmed.j0 k t1182 t1183 true t1177 t1178 t1179 bt1185.1 bt1185.2.1 bt1185.2.2) else (if t1183 < 0 then (laws_FnTrimmed.j0 k t1182 t1183 true t1177 t1178 t1179 bt1185.1 bt1185.2.1 bt1185.2.2) else ((impl_RowOk.f k t1177 t1178 t1179).bind fun t1197 => (laws_FnTrimmed.j0 k t1182 t1183 (!t1197) t1177 t1178 t1179 bt1185.1 bt1185.2.1 bt1185.2.2)))) else (some false))))) = some r := H
  have A4 := Aside0.mk A40
  clear A40
  replace H := Option.bind_eq_some_iff.mp H
  obtain ⟨⟨t1185, t1186, t1187⟩, A50, H⟩ := H
  replace H : ((spec_RowTrim.f k t1177 t1178 t1179 t1182 t1183).bind fun bt1191 => ((laws_sameRow.f k t1185 t1186 t1187 bt1191.1 bt1191.2.1 bt1191.2.2).bind fun t1196 => (if t1196 = true then (if t1182 < 1 then (laws_FnTrimmed.j0 k t1182 t1183 true t1177 t1178 t1179 t1185 t1186 t1187) else (if t1183 < 0 then (laws_FnTrimmed.j0 k t1182 t1183 true t1177 t1178 t1179 t1185 t1186 t1187) else ((impl_RowOk.f k t1177 t1178 t1179).bind fun t1197 => (laws_FnTrimmed.j0 k t1182 t1183 (!t1197) t1177 t1178 t1179 t1185 t1186 t1187)))) else (some false)))) = some r := H
  have A5 := Aside0.mk A50
  clear A50
  replace H := Option.bind_eq_some_iff.mp H
  obtain ⟨⟨t1191, t1192, t1193⟩, A60, H⟩ := H
  replace H : ((laws_sameRow.f k t1185 t1186 t1187 t1191 t1192 t1193).bind fun t1196 => (if t1196 = true then (if t1182 < 1 then (laws_FnTrimmed.j0 k t1182 t1183 true t1177 t1178 t1179 t1185 t1186 t1187) else (if t1183 < 0 then (laws_FnTrimmed.j0 k t1182 t1183 true t1177 t1178 t1179 t1185 t1186 t1187) else ((impl_RowOk.f k t1177 t1178 t1179).bind fun t1197 => (laws_FnTrimmed.j0 k t1182 t1183 (!t1197) t1177 t1178 t1179 t1185 t1186 t1187)))) else (some false))) = some r := H
  have A6 := Aside0.mk A60
  clear A60
  replace H := Option.bind_eq_some_iff.mp H
  obtain ⟨t1196, A70, H⟩ := H
  replace H : (if t1196 = true then (if t1182 < 1 then (laws_FnTrimmed.j0 k t1182 t1183 true t1177 t1178 t1179 t1185 t1186 t1187) else (if t1183 < 0 then (laws_FnTrimmed.j0 k t1182 t1183 true t1177 t1178 t1179 t1185 t1186 t1187) else ((impl_RowOk.f k t1177 t1178 t1179).bind fun t1197 => (laws_FnTrimmed.j0 k t1182 t1183 (!t1197) t1177 t1178 t1179 t1185 t1186 t1187)))) else (some false)) = some r := H
  have A7 := Aside0.mk A70
  clear A70
  by_cases c8 : t1196 = true
  ·
   subst c8
   have H1 : (if t1182 < 1 then (laws_FnTrimmed.j0 k t1182 t1183 true t1177 t1178 t1179 t1185 t1186 t1187) else (if t1183 < 0 then (laws_FnTrimmed.j0 k t1182 t1183 true t1177 t1178 t1179 t1185 t1186 t1187) else ((impl_RowOk.f k t1177 t1178 t1179).bind fun t1197 => (laws_FnTrimmed.j0 k t1182 t1183 (!t1197) t1177 t1178 t1179 t1185 t1186 t1187)))) = some r := by rw [if_pos rfl] at H; exact H
   clear H
   have H := H1
   clear H1
   have HC9 := Aside0.mk H
   clear H
   go_enter Try.func3, Try.ntmps3
   try go_wp2_with (first | ((with_reducible refine gate_callee (f := 9) rfl ?_); refine goesL_ (some 10) rfl rfl Try.func9 (by kernel_rfl) rfl #[.slice A0 l0.length c0] rfl sm_ ?_; (with_reducible refine (laws_big.calls _ _ l0 false _ ?side1 ?side2 A2.out).mono ?_); (case side1 => repeat (first | exact HR0.out | (with_reducible refine Kd.C_alloc ?_ _) | (with_reducible refine Kd.C_drewN ?_ _) | (with_reducible refine Kd.C_drew ?_))); (case side2 => exact HC0.out); rintro e w' ⟨rfl, ⟨nd, rfl⟩⟩; refine ⟨_, rfl, ?_⟩) | ((with_reducible refine gate_callee (f := 10) rfl ?_); refine goesL_ (some 13) rfl rfl Try.func10 (by kernel_rfl) rfl #[.slice A0 l0.length c0] rfl sm_ ?_; (with_reducible refine (spec_DrawRowTrim.calls k _ _ l0 t1177 t1178 t1179 t1182 t1183 _ ?side1 ?side2 A4.out).mono ?_); (case side1 => repeat (first | exact HR0.out | (with_reducible refine Kd.C_alloc ?_ _) | (with_reducible refine Kd.C_drewN ?_ _) | (with_reducible refine Kd.C_drew ?_))); (case side2 => exact HC0.out); rintro e w10 ⟨v1180, rfl, ho0, hb⟩; refine ⟨_, rfl, ?_⟩; have HO1181 := Aside0.mk (Kd.R_lower ho0 (below_size (hb_ HB.out))); replace HB := ch_ HB hb; (try clear hb); (try clear hb2); (try clear hk); (try clear hi); (try clear ho0)) | ((with_reducible refine gate_dst (N := 3) rfl ?_); (try (refine gate_guard (by rfl) ?_; dsimp only)); refine box_event ?hg (N := 3) ?hd (cs := #[.int .i64 0, .int .i64 0, .slice none 0 0]) (t := 26) ?hr ?_; (case hd => rfl); (case hg => rfl); (case hr => first | (go_simp; done) | (go_simp; rfl)); intro gb1184 hg w11 hbox hb; have BK1184 := Aside0.mk (hbox); have GW1184 := cz_ HB hg; have GE1184 := cz_ HB hg; replace HO1181 := cr_ HO1181 hb; replace HB := ch_ HB hb; clear hb hbox hg; have hcz12_0 : w11.cell? ⟨gb1184, 0, none⟩ = some (.int .i64 0) := bc_ BK1184 0; have hcz12_1 : w11.cell? ⟨gb1184, 1, none⟩ = some (.int .i64 0) := bc_ BK1184 1; have hcz12_2 : w11.cell? ⟨gb1184, 2, none⟩ = some (.slice none 0 0) := bc_ BK1184 2; have hfz12_0 := blk_frozen BK1184.out 0; have hfz12_1 := blk_frozen BK1184.out 1; have hfz12_2 := blk_frozen BK1184.out 2; obtain ⟨Ao13, co13, eo13⟩ := Kd.R_slice HO1181.out; subst eo13) | ((with_reducible refine gate_callee (f := 11) rfl ?_); refine goesL_ (some 20) rfl rfl Try.func11 (by kernel_rfl) rfl #[.agg #[.int .i64 t1177, .int .i64 t1178, .slice Ao13 t1179.length co13], .int .i64 t1182, .int .i64 t1183] rfl sm_ ?_; (with_reducible refine (impl_RowTrim.calls k t1177 t1178 _ _ t1179 t1182 t1183 t1185 t1186 t1187 _ ?side1 ?side2 A5.out).mono ?_); (case side1 => refine (Kd.R_reads' (e := 33) (base := w.heap.size) (ok := fun k_ => True) (n := t1179.length) (c := co13) ?_).2.2; exact (rk_ HO1181.out BK1184.out)); (case side2 => exact (Kd.R_reads' HO1181.out).2.1); rintro e w14 ⟨v1188, rfl, ho0, hb⟩; refine ⟨_, rfl, ?_⟩; have HO1189 := Aside0.mk (Kd.R_lower (Kd.R_new' ho0 (Kd.R_lt (rk_ HO1181.out BK1184.out))) (below_size (hb_ HB.out))); replace HO1181 := Aside0.mk (Kd.R_elder' (rk_ HO1181.out BK1184.out) (Kd.R_base ho0) hb); replace BK1184 := Aside0.mk (blk_below (g := gb1184) (o := .cells #[.int .i64 t1177, .int .i64 t1178, .slice Ao13 t1179.length co13] 26 (0, 0)) (bp_ BK1184.out) hb); replace HB := ch_ HB hb; (try clear hb); (try clear hb2); (try clear hk); (try clear hi); (try clear ho0)) | ((with_reducible refine gate_dst (N := 6) rfl ?_); (try (refine gate_guard (by rfl) ?_; dsimp only)); refine box_event ?hg (N := 6) ?hd (cs := #[.int .i64 0, .int .i64 0, .slice none 0 0]) (t := 26) ?hr ?_; (case hd => rfl); (case hg => rfl); (case hr => first | (go_simp; done) | (go_simp; rfl)); intro gb1190 hg w15 hbox hb; have BK1190 := Aside0.mk (hbox); have GW1190 := cz_ HB hg; have GE1190 := cz_ HB hg; have NB1184_1190 := cn_ BK1184 hg; have NB1190_1184 := cm_ BK1184 hg; replace HO1181 := cr_ HO1181 hb; replace HO1189 := cr_ HO1189 hb; replace BK1184 := cb_ BK1184 hb; replace HB := ch_ HB hb; clear hb hbox hg; have hnb16 := NB1190_1184.out; have hnc16 := NB1184_1190.out; have hcz17_0 : w15.cell? ⟨gb1190, 0, none⟩ = some (.int .i64 0) := bc_ BK1190 0; have hcz17_1 : w15.cell? ⟨gb1190, 1, none⟩ = some (.int .i64 0) := bc_ BK1190 1; have hcz17_2 : w15.cell? ⟨gb1190, 2, none⟩ = some (.slice none 0 0) := bc_ BK1190 2; have hfz17_0 := blk_frozen BK1190.out 0; have hfz17_1 := blk_frozen BK1190.out 1; have hfz17_2 := blk_frozen BK1190.out 2; obtain ⟨Ao18, co18, eo18⟩ := Kd.R_slice HO1189.out; subst eo18))
   obtain ⟨w19, qe_⟩ : ∃ x_, x_ = (((w15.setCell ⟨gb1190, 0, none⟩ (.int .i64 t1185)).setCell ⟨gb1190, 1, none⟩ (.int .i64 t1186)).setCell ⟨gb1190, 2, none⟩ (.slice Ao18 t1187.length co18)) := ⟨_, rfl⟩
   rw [← qe_]
   replace HO1181 : Aside0 (Kd.R k_Item 33 w19 w.heap.size (fun k_ => some k_ ≠ (.slice Ao18 t1187.length co18 : Value).ownBlock) (.slice Ao13 t1179.length co13) t1179) := ⟨by rw [qe_]; exact by (with_reducible repeat (first | apply Kd.R_alloc | apply Kd.R_drewN | apply Kd.R_drew)); exact Kd.R_mono (Kd.R_far (p := ⟨gb1190, 2, none⟩) (Kd.R_far (p := ⟨gb1190, 1, none⟩) (Kd.R_far (p := ⟨gb1190, 0, none⟩) (Kd.R_types HO1181.out BK1190.out (by decide)) (fun _ hk => hk.2) (.int .i64 t1185)) (fun _ hk => hk.2) (.int .i64 t1186)) (fun _ hk => hk.2) (.slice Ao18 t1187.length co18)) (fun _ hk => hk.1.2)⟩
   replace HO1189 : Aside0 (Kd.R k_Item 33 w19 w.heap.size (fun k_ => some k_ ≠ (.slice Ao13 t1179.length co13 : Value).ownBlock) (.slice Ao18 t1187.length co18) t1187) := ⟨by rw [qe_]; exact by (with_reducible repeat (first | apply Kd.R_alloc | apply Kd.R_drewN | apply Kd.R_drew)); exact Kd.R_mono (Kd.R_far (p := ⟨gb1190, 2, none⟩) (Kd.R_far (p := ⟨gb1190, 1, none⟩) (Kd.R_far (p := ⟨gb1190, 0, none⟩) (Kd.R_types HO1189.out BK1190.out (by decide)) (fun _ hk => hk.2) (.int .i64 t1185)) (fun _ hk => hk.2) (.int .i64 t1186)) (fun _ hk => hk.2) (.slice Ao18 t1187.length co18)) (fun _ hk => hk.1.2)⟩
   replace BK1184 := fl_ qe_ BK1184
   replace BK1190 : Aside0 (w19.heap[gb1190]? = some (.cells #[.int .i64 t1185, .int .i64 t1186, .slice Ao18 t1187.length co18] 26 (0, 0))) := ⟨by rw [qe_]; exact bp_ BK1190.out⟩
   replace HB : Aside0 (Below w.heap.size w w19) := ⟨by rw [qe_]; exact hb_ HB.out⟩
   clear qe_
   replace HO1181 := Aside0.mk (Kd.R_drew HO1181.out)
   replace HO1189 := Aside0.mk (Kd.R_drew HO1189.out)
   replace BK1184 := Aside0.mk (blk_drew BK1184.out)
   replace BK1190 := Aside0.mk (blk_drew BK1190.out)
   replace HB := Aside0.mk (below_drew1 HB.out)
   refine start_ (n := 7) (S := fun w' => w'.cell? ⟨gb1190, 0, none⟩ = some (.int .i64 t1185) ∧ w'.cell? ⟨gb1190, 1, none⟩ = some (.int .i64 t1186) ∧ w'.cell? ⟨gb1190, 2, none⟩ = some (.slice Ao18 t1187.length co18) ∧ w'.cell? ⟨gb1184, 0, none⟩ = some (.int .i64 t1177) ∧ w'.cell? ⟨gb1184, 1, none⟩ = some (.int .i64 t1178) ∧ w'.cell? ⟨gb1184, 2, none⟩ = some (.slice Ao13 t1179.length co13)) (ds := []) #[false, false, false, false, false, false, false] (by kernel_rfl) rfl rfl ⟨bc_ BK1190 0, bc_ BK1190 1, bc_ BK1190 2, bc_ BK1184 0, bc_ BK1184 1, bc_ BK1184 2⟩ (fun hHeld => ?_)
   generalize w19.drew = w20 at HO1181 HO1189 BK1184 BK1190 HB hHeld ⊢
   refine pure_ (i := 2) (N := some 23) (v := ?_) (a' := ?_) #[false, false, true, false, false, false, false] rfl rfl (by kernel_rfl) (fun _ _ _ h => h) (Or.inl ⟨by rfl, ?_⟩) ?_ ?_; rotate_left; (focus intro w'; go_simp; with_reducible rfl); rotate_left; (focus simp only [Act.put, List.setIfInBounds_toArray, List.set_cons_zero, List.set_cons_succ, i64_w, i32_w]; rfl)
   refine pure_ (i := 3) (N := some 24) (v := ?_) (a' := ?_) #[false, false, true, true, false, false, false] rfl rfl (by kernel_rfl) (fun _ _ _ h => h) (Or.inl ⟨by rfl, ?_⟩) ?_ ?_; rotate_left; (focus intro w'; go_simp; with_reducible rfl); rotate_left; (focus simp only [Act.put, List.setIfInBounds_toArray, List.set_cons_zero, List.set_cons_succ, i64_w, i32_w]; rfl)
   refine take_ (i := 0) (N := some 21) (v := ?_) (a' := ?_) #[true, false, true, true, false, false, false] rfl rfl (by kernel_rfl) (fun _ _ _ h => h) (Or.inl ⟨by rfl, ?_⟩) hHeld ?_ ?_
   rotate_left
   ·
    rintro w' ⟨s0, s1, s2, s3, s4, s5⟩
    go_simp
    with_reducible rfl
   rotate_left; (focus simp only [Act.put, List.setIfInBounds_toArray, List.set_cons_zero, List.set_cons_succ, i64_w, i32_w]; rfl)
   refine take_ (i := 1) (N := some 22) (v := ?_) (a' := ?_) #[true, true, true, true, false, false, false] rfl rfl (by kernel_rfl) (fun _ _ _ h => h) (Or.inl ⟨by rfl, ?_⟩) hHeld ?_ ?_
   rotate_left
   ·
    rintro w' ⟨s0, s1, s2, s3, s4, s5⟩
    go_simp
    with_reducible rfl
   rotate_left; (focus simp only [Act.put, List.setIfInBounds_toArray, List.set_cons_zero, List.set_cons_succ, i64_w, i32_w]; rfl)
   refine one_ (i := 4) (N := some 25) #[true, true, true, true, true, false, false] rfl rfl (by kernel_rfl) (by decide) (fun K hK => ?_)
   refine goes_ Try.func13 (by kernel_rfl) rfl #[.agg #[.int .i64 t1177, .int .i64 t1178, .slice Ao13 t1179.length co13], .int .i64 t1182, .int .i64 t1183] (by rfl) rfl rfl sm_ ?_
   with_reducible refine (spec_RowTrim.calls k t1177 t1178 _ _ t1179 t1182 t1183 t1191 t1192 t1193 _ ?side1 ?side2 A6.out).mono ?_
   (case side1 => repeat (first | exact (Kd.R_reads' HO1181.out).2.2 | (with_reducible refine Kd.C_alloc ?_ _) | (with_reducible refine Kd.C_drewN ?_ _) | (with_reducible refine Kd.C_drew ?_)))
   (case side2 => exact (Kd.R_reads' HO1181.out).2.1)
   rintro e w21 ⟨v1194, rfl, ho0, hb⟩
   refine ⟨_, rfl, ?_⟩
   have HO1195 := Aside0.mk (Kd.R_lower (Kd.R_new' (Kd.R_new' ho0 (Kd.R_lt (rq_ HO1181.out))) (Kd.R_lt (rq_ HO1189.out))) (below_size (hb_ HB.out)))
   replace HO1181 := Aside0.mk (Kd.R_elder' (rq_ HO1181.out) (Kd.R_base ho0) hb)
   replace HO1189 := Aside0.mk (Kd.R_elder' (rq_ HO1189.out) (Kd.R_base ho0) hb)
   replace BK1184 := cb_ BK1184 hb
   replace BK1190 := cb_ BK1190 hb
   replace HB := ch_ HB hb
   (try clear hb); (try clear hb2); (try clear hk); (try clear hi); (try clear ho0)
   obtain ⟨Ao22, co22, eo22⟩ := Kd.R_slice HO1195.out
   (first | subst eo22 | (injection eo22 with f1_ f2_ f3_; have f4_ := f1_.symm; have f5_ := f3_.symm; clear f1_ f2_ f3_; subst f4_; subst f5_))
   refine hK.out _ _ ⟨bc_ BK1190 0, bc_ BK1190 1, bc_ BK1190 2, bc_ BK1184 0, bc_ BK1184 1, bc_ BK1184 2⟩ (fun hHeld => ?_)
   clear hK K
   refine nm_ ?_
   refine one_ (i := 5) (N := some 26) #[true, true, true, true, true, true, false] rfl rfl (by kernel_rfl) (by decide) (fun K hK => ?_)
   refine goes_ Try.func12 (by kernel_rfl) rfl #[.agg #[.int .i64 t1185, .int .i64 t1186, .slice Ao18 t1187.length co18], .agg #[.int .i64 t1191, .int .i64 t1192, .slice Ao22 t1193.length co22]] (by rfl) rfl rfl sm_ ?_
   with_reducible refine (laws_sameRow.calls k t1185 t1186 _ _ t1187 t1191 t1192 _ _ t1193 true _ ?side1 ?side2 ?side3 ?side4 A7.out).mono ?_
   (case side1 => repeat (first | exact (Kd.R_reads' HO1189.out).2.2 | (with_reducible refine Kd.C_alloc ?_ _) | (with_reducible refine Kd.C_drewN ?_ _) | (with_reducible refine Kd.C_drew ?_)))
   (case side2 => exact (Kd.R_reads' HO1189.out).2.1)
   (case side3 => repeat (first | exact (Kd.R_reads' HO1195.out).2.2 | (with_reducible refine Kd.C_alloc ?_ _) | (with_reducible refine Kd.C_drewN ?_ _) | (with_reducible refine Kd.C_drew ?_)))
   (case side4 => exact (Kd.R_reads' HO1195.out).2.1)
   rintro e w23 ⟨rfl, hb⟩
   refine ⟨_, rfl, ?_⟩
   replace HO1181 := cr_ HO1181 hb
   replace HO1189 := cr_ HO1189 hb
   replace HO1195 := cr_ HO1195 hb
   replace BK1184 := cb_ BK1184 hb
   replace BK1190 := cb_ BK1190 hb
   replace HB := ch_ HB hb
   (try clear hb)
   refine hK.out _ _ ⟨bc_ BK1190 0, bc_ BK1190 1, bc_ BK1190 2, bc_ BK1184 0, bc_ BK1184 1, bc_ BK1184 2⟩ (fun hHeld => ?_)
   clear hK K
   refine nm_ ?_
   refine pure_ (i := 6) (N := some 27) (v := ?_) (a' := ?_) #[true, true, true, true, true, true, true] rfl rfl (by kernel_rfl) (fun _ _ _ h => h) (Or.inl ⟨by rfl, ?_⟩) ?_ ?_; rotate_left; (focus intro w'; go_simp; with_reducible rfl); rotate_left; (focus simp only [Act.put, List.setIfInBounds_toArray, List.set_cons_zero, List.set_cons_succ, i64_w, i32_w]; rfl)
   refine done_ (by kernel_rfl) ?_
   go_upto_region 7 with (fail)
   go_cut [38] (fun v38 wc => ∃ (kq : Nat) (x38_8 : Bool), v38 = .bool x38_8 ∧ Aside0 (laws_FnTrimmed.j0 kq t1182 t1183 x38_8 t1177 t1178 t1179 t1185 t1186 t1187 = some r) ∧ Aside0 (kq ≤ k) ∧ Aside0 (Kd.R k_Item 33 wc w.heap.size (fun k_ => some k_ ≠ ((.slice Ao18 t1187.length co18) : Value).ownBlock) (.slice Ao13 t1179.length co13) t1179) ∧ Aside0 (Kd.R k_Item 33 wc w.heap.size (fun k_ => some k_ ≠ ((.slice Ao13 t1179.length co13) : Value).ownBlock) (.slice Ao18 t1187.length co18) t1187) ∧ Aside0 (wc.heap[gb1184]? = some (.cells #[.int .i64 t1177, .int .i64 t1178, (.slice Ao13 t1179.length co13)] 26 (0, 0))) ∧ Aside0 (wc.heap[gb1190]? = some (.cells #[.int .i64 t1185, .int .i64 t1186, (.slice Ao18 t1187.length co18)] 26 (0, 0))) ∧ Aside0 (Below w.heap.size w wc))
   case first =>
    have H := HC9.out
    clear HC9
    by_cases c24 : t1182 < 1
    ·
     rw [if_pos c24] at H
     have c24b0 : decide (t1182 < 1) = true := decide_eq_true c24
     clear c24
     (first | rw [c24b0] | (simp only [i64_w, i32_w]; rw [c24b0]) | rw [c24b4] | rw [c24b3] | skip)
     have H' := Aside0.mk H
     clear H
     go_wp2
     go_meet
     case rel => exact ⟨_, (true), (qf1_), H', ⟨qf7_⟩, ⟨rm_ HO1181.out⟩, ⟨rm_ HO1189.out⟩, ⟨bq_ BK1184.out⟩, ⟨bq_ BK1190.out⟩, ⟨hb_ HB.out⟩⟩
    ·
     rw [if_neg c24] at H
     have c24b0 : decide (t1182 < 1) = false := decide_eq_false c24
     clear c24
     (first | rw [c24b0] | (simp only [i64_w, i32_w]; rw [c24b0]) | rw [c24b4] | rw [c24b3] | skip)
     by_cases c25 : t1183 < 0
     ·
      rw [if_pos c25] at H
      have c25b0 : decide (t1183 < 0) = true := decide_eq_true c25
      clear c25
      have H' := Aside0.mk H
      clear H
      go_wp2
      go_meet
      case rel => exact ⟨_, (true), (qf1_), H', ⟨qf7_⟩, ⟨rm_ HO1181.out⟩, ⟨rm_ HO1189.out⟩, ⟨bq_ BK1184.out⟩, ⟨bq_ BK1190.out⟩, ⟨hb_ HB.out⟩⟩
     ·
      rw [if_neg c25] at H
      have c25b0 : decide (t1183 < 0) = false := decide_eq_false c25
      clear c25
      replace H := Option.bind_eq_some_iff.mp H
      obtain ⟨t1197, A260, H⟩ := H
      replace H : (laws_FnTrimmed.j0 k t1182 t1183 (!t1197) t1177 t1178 t1179 t1185 t1186 t1187) = some r := H
      have A26 := Aside0.mk A260
      clear A260
      have H' := Aside0.mk H
      clear H
      have hnb27 := NB1184_1190.out
      have hnc27 := NB1190_1184.out
      have hcz28_0 : w23.cell? ⟨gb1184, 0, none⟩ = some (.int .i64 t1177) := bc_ BK1184 0
      have hcz28_1 : w23.cell? ⟨gb1184, 1, none⟩ = some (.int .i64 t1178) := bc_ BK1184 1
      have hcz28_2 : w23.cell? ⟨gb1184, 2, none⟩ = some (.slice Ao13 t1179.length co13) := bc_ BK1184 2
      have hfz28_0 := blk_frozen BK1184.out 0
      have hfz28_1 := blk_frozen BK1184.out 1
      have hfz28_2 := blk_frozen BK1184.out 2
      go_wp2_with (first | (go_at_call 14; (with_reducible refine (impl_RowOk.calls k t1177 t1178 _ _ t1179 t1197 _ ?side1 ?side2 A26.out).mono ?_); (case side1 => repeat (first | exact (Kd.R_reads' HO1181.out).2.2 | (with_reducible refine Kd.C_alloc ?_ _) | (with_reducible refine Kd.C_drewN ?_ _) | (with_reducible refine Kd.C_drew ?_))); (case side2 => exact (Kd.R_reads' HO1181.out).2.1); rintro e w29 ⟨rfl, hb⟩; replace HO1181 := cr_ HO1181 hb; replace HO1189 := cr_ HO1189 hb; replace HO1195 := cr_ HO1195 hb; replace BK1184 := cb_ BK1184 hb; replace BK1190 := cb_ BK1190 hb; replace HB := ch_ HB hb; (try clear hb); (try clear hb2); (try clear hk); (try clear hi)))
      go_meet
      case rel => exact ⟨_, (!t1197), (qf1_), H', ⟨qf7_⟩, ⟨rm_ HO1181.out⟩, ⟨rm_ HO1189.out⟩, ⟨bq_ BK1184.out⟩, ⟨bq_ BK1190.out⟩, ⟨hb_ HB.out⟩⟩
   case rest =>
    clear HC9
    (try clear c3); (try clear c8); (try clear hcz12_0); (try clear hcz12_1); (try clear hcz12_2); (try clear hcz17_0); (try clear hcz17_1); (try clear hcz17_2); (try clear hfz12_0); (try clear hfz12_1); (try clear hfz12_2); (try clear hfz17_0); (try clear hfz17_1); (try clear hfz17_2)
    obtain ⟨kq, x38_8, rfl, HA, HJ8, HO_1185002, HO_1191002, BK1184, BK1190, HB⟩ := hcut
    cases kq with
    | zero => exact absurd HA.out (by simp [laws_FnTrimmed.j0])
    | succ kj8 =>
     have H := HA.out
     clear HA
     simp only [laws_FnTrimmed.j0] at H
     by_cases c30 : x38_8 = true
     ·
      subst c30
      have H1 : ((laws_sameRow.f kj8 t1185 t1186 t1187 t1177 t1178 t1179).bind fun t1198 => (some t1198)) = some r := by rw [if_pos rfl] at H; exact H
      clear H
      have H := H1
      clear H1
      replace H := Option.bind_eq_some_iff.mp H
      obtain ⟨t1198, A310, H⟩ := H
      replace H : (some t1198) = some r := H
      have A31 := Aside0.mk A310
      clear A310
      obtain rfl := Option.some.inj H
      have hnb32 := NB1190_1184.out
      have hnc32 := NB1184_1190.out
      have hcz33_0 : wc.cell? ⟨gb1190, 0, none⟩ = some (.int .i64 t1185) := bc_ BK1190 0
      have hcz33_1 : wc.cell? ⟨gb1190, 1, none⟩ = some (.int .i64 t1186) := bc_ BK1190 1
      have hcz33_2 : wc.cell? ⟨gb1190, 2, none⟩ = some (.slice Ao18 t1187.length co18) := bc_ BK1190 2
      have hfz33_0 := blk_frozen BK1190.out 0
      have hfz33_1 := blk_frozen BK1190.out 1
      have hfz33_2 := blk_frozen BK1190.out 2
      have hcz34_0 : wc.cell? ⟨gb1184, 0, none⟩ = some (.int .i64 t1177) := bc_ BK1184 0
      have hcz34_1 : wc.cell? ⟨gb1184, 1, none⟩ = some (.int .i64 t1178) := bc_ BK1184 1
      have hcz34_2 : wc.cell? ⟨gb1184, 2, none⟩ = some (.slice Ao13 t1179.length co13) := bc_ BK1184 2
      have hfz34_0 := blk_frozen BK1184.out 0
      have hfz34_1 := blk_frozen BK1184.out 1
      have hfz34_2 := blk_frozen BK1184.out 2
      go_wp2_with (first | ((with_reducible refine gate_callee (f := 12) rfl ?_); refine goesL_ (some 41) rfl rfl Try.func12 (by kernel_rfl) rfl #[.agg #[.int .i64 t1185, .int .i64 t1186, .slice Ao18 t1187.length co18], .agg #[.int .i64 t1177, .int .i64 t1178, .slice Ao13 t1179.length co13]] rfl sm_ ?_; (with_reducible refine (laws_sameRow.calls kj8 t1185 t1186 _ _ t1187 t1177 t1178 _ _ t1179 t1198 _ ?side1 ?side2 ?side3 ?side4 A31.out).mono ?_); (case side1 => repeat (first | exact (Kd.R_reads' HO_1191002.out).2.2 | (with_reducible refine Kd.C_alloc ?_ _) | (with_reducible refine Kd.C_drewN ?_ _) | (with_reducible refine Kd.C_drew ?_))); (case side2 => exact (Kd.R_reads' HO_1191002.out).2.1); (case side3 => repeat (first | exact (Kd.R_reads' HO_1185002.out).2.2 | (with_reducible refine Kd.C_alloc ?_ _) | (with_reducible refine Kd.C_drewN ?_ _) | (with_reducible refine Kd.C_drew ?_))); (case side4 => exact (Kd.R_reads' HO_1185002.out).2.1); rintro e w35 ⟨rfl, hb⟩; refine ⟨_, rfl, ?_⟩; replace HO_1185002 := cr_ HO_1185002 hb; replace HO_1191002 := cr_ HO_1191002 hb; replace BK1184 := cb_ BK1184 hb; replace BK1190 := cb_ BK1190 hb; replace HB := ch_ HB hb; (try clear hb); (try clear hb2); (try clear hk); (try clear hi)))
      go_ret
      exact ⟨er_, hb_ HB.out⟩
     ·
      replace c30 := Bool.eq_false_iff.mpr c30
      subst c30
      have H1 : ((impl_RowOk.f kj8 t1185 t1186 t1187).bind fun t1199 => (if t1199 = true then (if (wrap64 ((t1179.length : Int) - (t1187.length : Int))) < 0 then (laws_FnTrimmed.j1 kj8 t1182 t1183 (wrap64 ((t1179.length : Int) - (t1187.length : Int))) true t1177 t1178 t1179 t1185 t1186 t1187) else (if t1186 = t1178 then (if t1185 < t1177 then (laws_FnTrimmed.j1 kj8 t1182 t1183 (wrap64 ((t1179.length : Int) - (t1187.length : Int))) true t1177 t1178 t1179 t1185 t1186 t1187) else (if (wrap64 ((t1179.length : Int) - (t1187.length : Int))) > 0 then (if t1182 = 0 then (none) else (laws_FnTrimmed.j1 kj8 t1182 t1183 (wrap64 ((t1179.length : Int) - (t1187.length : Int))) ((Int.tmod t1185 t1182) != 0) t1177 t1178 t1179 t1185 t1186 t1187)) else (laws_FnTrimmed.j1 kj8 t1182 t1183 (wrap64 ((t1179.length : Int) - (t1187.length : Int))) false t1177 t1178 t1179 t1185 t1186 t1187))) else (laws_FnTrimmed.j1 kj8 t1182 t1183 (wrap64 ((t1179.length : Int) - (t1187.length : Int))) true t1177 t1178 t1179 t1185 t1186 t1187))) else (laws_FnTrimmed.j1 kj8 t1182 t1183 (wrap64 ((t1179.length : Int) - (t1187.length : Int))) true t1177 t1178 t1179 t1185 t1186 t1187))) = some r := by rw [if_neg (show ¬ (false = true) by decide)] at H; exact H
      clear H
      have H := H1
      clear H1
      have HC36 := Aside0.mk H
      clear H
      have hnb37 := NB1184_1190.out
      have hnc37 := NB1190_1184.out
      have hcz38_0 : wc.cell? ⟨gb1184, 0, none⟩ = some (.int .i64 t1177) := bc_ BK1184 0
      have hcz38_1 : wc.cell? ⟨gb1184, 1, none⟩ = some (.int .i64 t1178) := bc_ BK1184 1
      have hcz38_2 : wc.cell? ⟨gb1184, 2, none⟩ = some (.slice Ao13 t1179.length co13) := bc_ BK1184 2
      have hfz38_0 := blk_frozen BK1184.out 0
      have hfz38_1 := blk_frozen BK1184.out 1
      have hfz38_2 := blk_frozen BK1184.out 2
      have hcz39_0 : wc.cell? ⟨gb1190, 0, none⟩ = some (.int .i64 t1185) := bc_ BK1190 0
      have hcz39_1 : wc.cell? ⟨gb1190, 1, none⟩ = some (.int .i64 t1186) := bc_ BK1190 1
      have hcz39_2 : wc.cell? ⟨gb1190, 2, none⟩ = some (.slice Ao18 t1187.length co18) := bc_ BK1190 2
      have hfz39_0 := blk_frozen BK1190.out 0
      have hfz39_1 := blk_frozen BK1190.out 1
      have hfz39_2 := blk_frozen BK1190.out 2
      go_upto_region 10 with (fail)
      go_cut [80] (fun v80 wc => ∃ (kq : Nat) (x80_35 : Bool), v80 = .bool x80_35 ∧ Aside0 (laws_FnTrimmed.j1 kq t1182 t1183 (wrap64 ((t1179.length : Int) - (t1187.length : Int))) x80_35 t1177 t1178 t1179 t1185 t1186 t1187 = some r) ∧ Aside0 (kq ≤ kj8) ∧ Aside0 (Kd.R k_Item 33 wc w.heap.size (fun k_ => some k_ ≠ ((.slice Ao18 t1187.length co18) : Value).ownBlock) (.slice Ao13 t1179.length co13) t1179) ∧ Aside0 (Kd.R k_Item 33 wc w.heap.size (fun k_ => some k_ ≠ ((.slice Ao13 t1179.length co13) : Value).ownBlock) (.slice Ao18 t1187.length co18) t1187) ∧ Aside0 (wc.heap[gb1184]? = some (.cells #[.int .i64 t1177, .int .i64 t1178, (.slice Ao13 t1179.length co13)] 26 (0, 0))) ∧ Aside0 (wc.heap[gb1190]? = some (.cells #[.int .i64 t1185, .int .i64 t1186, (.slice Ao18 t1187.length co18)] 26 (0, 0))) ∧ Aside0 (Below w.heap.size w wc))
      case first =>
       have H := HC36.out
       clear HC36
       replace H := Option.bind_eq_some_iff.mp H
       obtain ⟨t1199, A400, H⟩ := H
       replace H : (if t1199 = true then (if (wrap64 ((t1179.length : Int) - (t1187.length : Int))) < 0 then (laws_FnTrimmed.j1 kj8 t1182 t1183 (wrap64 ((t1179.length : Int) - (t1187.length : Int))) true t1177 t1178 t1179 t1185 t1186 t1187) else (if t1186 = t1178 then (if t1185 < t1177 then (laws_FnTrimmed.j1 kj8 t1182 t1183 (wrap64 ((t1179.length : Int) - (t1187.length : Int))) true t1177 t1178 t1179 t1185 t1186 t1187) else (if (wrap64 ((t1179.length : Int) - (t1187.length : Int))) > 0 then (if t1182 = 0 then (none) else (laws_FnTrimmed.j1 kj8 t1182 t1183 (wrap64 ((t1179.length : Int) - (t1187.length : Int))) ((Int.tmod t1185 t1182) != 0) t1177 t1178 t1179 t1185 t1186 t1187)) else (laws_FnTrimmed.j1 kj8 t1182 t1183 (wrap64 ((t1179.length : Int) - (t1187.length : Int))) false t1177 t1178 t1179 t1185 t1186 t1187))) else (laws_FnTrimmed.j1 kj8 t1182 t1183 (wrap64 ((t1179.length : Int) - (t1187.length : Int))) true t1177 t1178 t1179 t1185 t1186 t1187))) else (laws_FnTrimmed.j1 kj8 t1182 t1183 (wrap64 ((t1179.length : Int) - (t1187.length : Int))) true t1177 t1178 t1179 t1185 t1186 t1187)) = some r := H
       have A40 := Aside0.mk A400
       clear A400
       by_cases c41 : t1199 = true
       ·
        subst c41
        have H1 : (if (wrap64 ((t1179.length : Int) - (t1187.length : Int))) < 0 then (laws_FnTrimmed.j1 kj8 t1182 t1183 (wrap64 ((t1179.length : Int) - (t1187.length : Int))) true t1177 t1178 t1179 t1185 t1186 t1187) else (if t1186 = t1178 then (if t1185 < t1177 then (laws_FnTrimmed.j1 kj8 t1182 t1183 (wrap64 ((t1179.length : Int) - (t1187.length : Int))) true t1177 t1178 t1179 t1185 t1186 t1187) else (if (wrap64 ((t1179.length : Int) - (t1187.length : Int))) > 0 then (if t1182 = 0 then (none) else (laws_FnTrimmed.j1 kj8 t1182 t1183 (wrap64 ((t1179.length : Int) - (t1187.length : Int))) ((Int.tmod t1185 t1182) != 0) t1177 t1178 t1179 t1185 t1186 t1187)) else (laws_FnTrimmed.j1 kj8 t1182 t1183 (wrap64 ((t1179.length : Int) - (t1187.length : Int))) false t1177 t1178 t1179 t1185 t1186 t1187))) else (laws_FnTrimmed.j1 kj8 t1182 t1183 (wrap64 ((t1179.length : Int) - (t1187.length : Int))) true t1177 t1178 t1179 t1185 t1186 t1187))) = some r := by rw [if_pos rfl] at H; exact H
        clear H
        have H := H1
        clear H1
        by_cases c42 : (wrap64 ((t1179.length : Int) - (t1187.length : Int))) < 0
        ·
         rw [if_pos c42] at H
         have c42b0 : decide ((wrap64 ((t1179.length : Int) - (t1187.length : Int))) < 0) = true := decide_eq_true c42
         clear c42
         (first | rw [c42b0] | (simp only [i64_w, i32_w]; rw [c42b0]) | rw [c42b4] | rw [c42b3] | skip)
         have H' := Aside0.mk H
         clear H
         have hnb43 := NB1190_1184.out
         have hnc43 := NB1184_1190.out
         have hcz44_0 : wc.cell? ⟨gb1190, 0, none⟩ = some (.int .i64 t1185) := bc_ BK1190 0
         have hcz44_1 : wc.cell? ⟨gb1190, 1, none⟩ = some (.int .i64 t1186) := bc_ BK1190 1
         have hcz44_2 : wc.cell? ⟨gb1190, 2, none⟩ = some (.slice Ao18 t1187.length co18) := bc_ BK1190 2
         have hfz44_0 := blk_frozen BK1190.out 0
         have hfz44_1 := blk_frozen BK1190.out 1
         have hfz44_2 := blk_frozen BK1190.out 2
         go_wp2_with (first | ((with_reducible refine gate_callee (f := 14) rfl ?_); refine goesL_ (some 50) rfl rfl Try.func14 (by kernel_rfl) rfl #[.agg #[.int .i64 t1185, .int .i64 t1186, .slice Ao18 t1187.length co18]] rfl sm_ ?_; (with_reducible refine (impl_RowOk.calls kj8 t1185 t1186 _ _ t1187 true _ ?side1 ?side2 A40.out).mono ?_); (case side1 => repeat (first | exact (Kd.R_reads' HO_1191002.out).2.2 | (with_reducible refine Kd.C_alloc ?_ _) | (with_reducible refine Kd.C_drewN ?_ _) | (with_reducible refine Kd.C_drew ?_))); (case side2 => exact (Kd.R_reads' HO_1191002.out).2.1); rintro e w45 ⟨rfl, hb⟩; refine ⟨_, rfl, ?_⟩; replace HO_1185002 := cr_ HO_1185002 hb; replace HO_1191002 := cr_ HO_1191002 hb; replace BK1184 := cb_ BK1184 hb; replace BK1190 := cb_ BK1190 hb; replace HB := ch_ HB hb; (try clear hb); (try clear hb2); (try clear hk); (try clear hi)))
         go_meet
         case rel => exact ⟨_, (true), (qf1_), H', ⟨qf5_⟩, ⟨rq_ HO_1185002.out⟩, ⟨rq_ HO_1191002.out⟩, ⟨bq_ BK1184.out⟩, ⟨bq_ BK1190.out⟩, ⟨hb_ HB.out⟩⟩
        ·
         rw [if_neg c42] at H
         have c42b0 : decide ((wrap64 ((t1179.length : Int) - (t1187.length : Int))) < 0) = false := decide_eq_false c42
         clear c42
         (first | rw [c42b0] | (simp only [i64_w, i32_w]; rw [c42b0]) | rw [c42b4] | rw [c42b3] | skip)
         by_cases c46 : t1186 = t1178
         ·
          rw [if_pos c46] at H
          have c46b0 : (t1186 == t1178) = true := beq_iff_eq.mpr c46
          have c46b1 : (t1186 != t1178) = false := bne_eq_false_iff_eq.mpr c46
          clear c46
          by_cases c47 : t1185 < t1177
          ·
           rw [if_pos c47] at H
           have c47b0 : decide (t1185 < t1177) = true := decide_eq_true c47
           clear c47
           have H' := Aside0.mk H
           clear H
           have hnb48 := NB1190_1184.out
           have hnc48 := NB1184_1190.out
           have hcz49_0 : wc.cell? ⟨gb1190, 0, none⟩ = some (.int .i64 t1185) := bc_ BK1190 0
           have hcz49_1 : wc.cell? ⟨gb1190, 1, none⟩ = some (.int .i64 t1186) := bc_ BK1190 1
           have hcz49_2 : wc.cell? ⟨gb1190, 2, none⟩ = some (.slice Ao18 t1187.length co18) := bc_ BK1190 2
           have hfz49_0 := blk_frozen BK1190.out 0
           have hfz49_1 := blk_frozen BK1190.out 1
           have hfz49_2 := blk_frozen BK1190.out 2
           go_wp2_with (first | ((with_reducible refine gate_callee (f := 14) rfl ?_); refine goesL_ (some 50) rfl rfl Try.func14 (by kernel_rfl) rfl #[.agg #[.int .i64 t1185, .int .i64 t1186, .slice Ao18 t1187.length co18]] rfl sm_ ?_; (with_reducible refine (impl_RowOk.calls kj8 t1185 t1186 _ _ t1187 true _ ?side1 ?side2 A40.out).mono ?_); (case side1 => repeat (first | exact (Kd.R_reads' HO_1191002.out).2.2 | (with_reducible refine Kd.C_alloc ?_ _) | (with_reducible refine Kd.C_drewN ?_ _) | (with_reducible refine Kd.C_drew ?_))); (case side2 => exact (Kd.R_reads' HO_1191002.out).2.1); rintro e w50 ⟨rfl, hb⟩; refine ⟨_, rfl, ?_⟩; replace HO_1185002 := cr_ HO_1185002 hb; replace HO_1191002 := cr_ HO_1191002 hb; replace BK1184 := cb_ BK1184 hb; replace BK1190 := cb_ BK1190 hb; replace HB := ch_ HB hb; (try clear hb); (try clear hb2); (try clear hk); (try clear hi); have hcz51_0 : w50.cell? ⟨gb1190, 0, none⟩ = some (.int .i64 t1185) := bc_ BK1190 0; have hcz51_1 : w50.cell? ⟨gb1190, 1, none⟩ = some (.int .i64 t1186) := bc_ BK1190 1; have hcz51_2 : w50.cell? ⟨gb1190, 2, none⟩ = some (.slice Ao18 t1187.length co18) := bc_ BK1190 2; have hfz51_0 := blk_frozen BK1190.out 0; have hfz51_1 := blk_frozen BK1190.out 1; have hfz51_2 := blk_frozen BK1190.out 2; have hcz52_0 : w50.cell? ⟨gb1184, 0, none⟩ = some (.int .i64 t1177) := bc_ BK1184 0; have hcz52_1 : w50.cell? ⟨gb1184, 1, none⟩ = some (.int .i64 t1178) := bc_ BK1184 1; have hcz52_2 : w50.cell? ⟨gb1184, 2, none⟩ = some (.slice Ao13 t1179.length co13) := bc_ BK1184 2; have hfz52_0 := blk_frozen BK1184.out 0; have hfz52_1 := blk_frozen BK1184.out 1; have hfz52_2 := blk_frozen BK1184.out 2))
           go_meet
           case rel => exact ⟨_, (true), (qf1_), H', ⟨qf5_⟩, ⟨rq_ HO_1185002.out⟩, ⟨rq_ HO_1191002.out⟩, ⟨bq_ BK1184.out⟩, ⟨bq_ BK1190.out⟩, ⟨hb_ HB.out⟩⟩
          ·
           rw [if_neg c47] at H
           have c47b0 : decide (t1185 < t1177) = false := decide_eq_false c47
           clear c47
           by_cases c53 : (wrap64 ((t1179.length : Int) - (t1187.length : Int))) > 0
           ·
            rw [if_pos c53] at H
            have c53b0 : decide (0 < (wrap64 ((t1179.length : Int) - (t1187.length : Int)))) = true := decide_eq_true c53
            clear c53
            by_cases c54 : t1182 = 0
            ·
             rw [if_pos c54] at H
             exact absurd H (by simp)
            ·
             rw [if_neg c54] at H
             have c54b0 : (t1182 == 0) = false := beq_eq_false_iff_ne.mpr c54
             have c54b1 : (t1182 != 0) = true := bne_iff_ne.mpr c54
             have H' := Aside0.mk H
             clear H
             have hnb55 := NB1190_1184.out
             have hnc55 := NB1184_1190.out
             have hcz56_0 : wc.cell? ⟨gb1190, 0, none⟩ = some (.int .i64 t1185) := bc_ BK1190 0
             have hcz56_1 : wc.cell? ⟨gb1190, 1, none⟩ = some (.int .i64 t1186) := bc_ BK1190 1
             have hcz56_2 : wc.cell? ⟨gb1190, 2, none⟩ = some (.slice Ao18 t1187.length co18) := bc_ BK1190 2
             have hfz56_0 := blk_frozen BK1190.out 0
             have hfz56_1 := blk_frozen BK1190.out 1
             have hfz56_2 := blk_frozen BK1190.out 2
             go_wp2_with (first | ((with_reducible refine gate_callee (f := 14) rfl ?_); refine goesL_ (some 50) rfl rfl Try.func14 (by kernel_rfl) rfl #[.agg #[.int .i64 t1185, .int .i64 t1186, .slice Ao18 t1187.length co18]] rfl sm_ ?_; (with_reducible refine (impl_RowOk.calls kj8 t1185 t1186 _ _ t1187 true _ ?side1 ?side2 A40.out).mono ?_); (case side1 => repeat (first | exact (Kd.R_reads' HO_1191002.out).2.2 | (with_reducible refine Kd.C_alloc ?_ _) | (with_reducible refine Kd.C_drewN ?_ _) | (with_reducible refine Kd.C_drew ?_))); (case side2 => exact (Kd.R_reads' HO_1191002.out).2.1); rintro e w57 ⟨rfl, hb⟩; refine ⟨_, rfl, ?_⟩; replace HO_1185002 := cr_ HO_1185002 hb; replace HO_1191002 := cr_ HO_1191002 hb; replace BK1184 := cb_ BK1184 hb; replace BK1190 := cb_ BK1190 hb; replace HB := ch_ HB hb; (try clear hb); (try clear hb2); (try clear hk); (try clear hi); have hcz58_0 : w57.cell? ⟨gb1190, 0, none⟩ = some (.int .i64 t1185) := bc_ BK1190 0; have hcz58_1 : w57.cell? ⟨gb1190, 1, none⟩ = some (.int .i64 t1186) := bc_ BK1190 1; have hcz58_2 : w57.cell? ⟨gb1190, 2, none⟩ = some (.slice Ao18 t1187.length co18) := bc_ BK1190 2; have hfz58_0 := blk_frozen BK1190.out 0; have hfz58_1 := blk_frozen BK1190.out 1; have hfz58_2 := blk_frozen BK1190.out 2; have hcz59_0 : w57.cell? ⟨gb1184, 0, none⟩ = some (.int .i64 t1177) := bc_ BK1184 0; have hcz59_1 : w57.cell? ⟨gb1184, 1, none⟩ = some (.int .i64 t1178) := bc_ BK1184 1; have hcz59_2 : w57.cell? ⟨gb1184, 2, none⟩ = some (.slice Ao13 t1179.length co13) := bc_ BK1184 2; have hfz59_0 := blk_frozen BK1184.out 0; have hfz59_1 := blk_frozen BK1184.out 1; have hfz59_2 := blk_frozen BK1184.out 2))
             go_meet
             case rel => exact ⟨_, (((Int.tmod t1185 t1182) != 0)), (qf1_), H', ⟨qf5_⟩, ⟨rq_ HO_1185002.out⟩, ⟨rq_ HO_1191002.out⟩, ⟨bq_ BK1184.out⟩, ⟨bq_ BK1190.out⟩, ⟨hb_ HB.out⟩⟩
           ·
            rw [if_neg c53] at H
            have c53b0 : decide (0 < (wrap64 ((t1179.length : Int) - (t1187.length : Int)))) = false := decide_eq_false c53
            clear c53
            have H' := Aside0.mk H
            clear H
            have hnb60 := NB1190_1184.out
            have hnc60 := NB1184_1190.out
            have hcz61_0 : wc.cell? ⟨gb1190, 0, none⟩ = some (.int .i64 t1185) := bc_ BK1190 0
            have hcz61_1 : wc.cell? ⟨gb1190, 1, none⟩ = some (.int .i64 t1186) := bc_ BK1190 1
            have hcz61_2 : wc.cell? ⟨gb1190, 2, none⟩ = some (.slice Ao18 t1187.length co18) := bc_ BK1190 2
            have hfz61_0 := blk_frozen BK1190.out 0
            have hfz61_1 := blk_frozen BK1190.out 1
            have hfz61_2 := blk_frozen BK1190.out 2
            go_wp2_with (first | ((with_reducible refine gate_callee (f := 14) rfl ?_); refine goesL_ (some 50) rfl rfl Try.func14 (by kernel_rfl) rfl #[.agg #[.int .i64 t1185, .int .i64 t1186, .slice Ao18 t1187.length co18]] rfl sm_ ?_; (with_reducible refine (impl_RowOk.calls kj8 t1185 t1186 _ _ t1187 true _ ?side1 ?side2 A40.out).mono ?_); (case side1 => repeat (first | exact (Kd.R_reads' HO_1191002.out).2.2 | (with_reducible refine Kd.C_alloc ?_ _) | (with_reducible refine Kd.C_drewN ?_ _) | (with_reducible refine Kd.C_drew ?_))); (case side2 => exact (Kd.R_reads' HO_1191002.out).2.1); rintro e w62 ⟨rfl, hb⟩; refine ⟨_, rfl, ?_⟩; replace HO_1185002 := cr_ HO_1185002 hb; replace HO_1191002 := cr_ HO_1191002 hb; replace BK1184 := cb_ BK1184 hb; replace BK1190 := cb_ BK1190 hb; replace HB := ch_ HB hb; (try clear hb); (try clear hb2); (try clear hk); (try clear hi); have hcz63_0 : w62.cell? ⟨gb1190, 0, none⟩ = some (.int .i64 t1185) := bc_ BK1190 0; have hcz63_1 : w62.cell? ⟨gb1190, 1, none⟩ = some (.int .i64 t1186) := bc_ BK1190 1; have hcz63_2 : w62.cell? ⟨gb1190, 2, none⟩ = some (.slice Ao18 t1187.length co18) := bc_ BK1190 2; have hfz63_0 := blk_frozen BK1190.out 0; have hfz63_1 := blk_frozen BK1190.out 1; have hfz63_2 := blk_frozen BK1190.out 2; have hcz64_0 : w62.cell? ⟨gb1184, 0, none⟩ = some (.int .i64 t1177) := bc_ BK1184 0; have hcz64_1 : w62.cell? ⟨gb1184, 1, none⟩ = some (.int .i64 t1178) := bc_ BK1184 1; have hcz64_2 : w62.cell? ⟨gb1184, 2, none⟩ = some (.slice Ao13 t1179.length co13) := bc_ BK1184 2; have hfz64_0 := blk_frozen BK1184.out 0; have hfz64_1 := blk_frozen BK1184.out 1; have hfz64_2 := blk_frozen BK1184.out 2))
            go_meet
            case rel => exact ⟨_, (false), (qf1_), H', ⟨qf5_⟩, ⟨rq_ HO_1185002.out⟩, ⟨rq_ HO_1191002.out⟩, ⟨bq_ BK1184.out⟩, ⟨bq_ BK1190.out⟩, ⟨hb_ HB.out⟩⟩
         ·
          rw [if_neg c46] at H
          have c46b0 : (t1186 == t1178) = false := beq_eq_false_iff_ne.mpr c46
          have c46b1 : (t1186 != t1178) = true := bne_iff_ne.mpr c46
          have H' := Aside0.mk H
          clear H
          have hnb65 := NB1190_1184.out
          have hnc65 := NB1184_1190.out
          have hcz66_0 : wc.cell? ⟨gb1190, 0, none⟩ = some (.int .i64 t1185) := bc_ BK1190 0
          have hcz66_1 : wc.cell? ⟨gb1190, 1, none⟩ = some (.int .i64 t1186) := bc_ BK1190 1
          have hcz66_2 : wc.cell? ⟨gb1190, 2, none⟩ = some (.slice Ao18 t1187.length co18) := bc_ BK1190 2
          have hfz66_0 := blk_frozen BK1190.out 0
          have hfz66_1 := blk_frozen BK1190.out 1
          have hfz66_2 := blk_frozen BK1190.out 2
          go_wp2_with (first | ((with_reducible refine gate_callee (f := 14) rfl ?_); refine goesL_ (some 50) rfl rfl Try.func14 (by kernel_rfl) rfl #[.agg #[.int .i64 t1185, .int .i64 t1186, .slice Ao18 t1187.length co18]] rfl sm_ ?_; (with_reducible refine (impl_RowOk.calls kj8 t1185 t1186 _ _ t1187 true _ ?side1 ?side2 A40.out).mono ?_); (case side1 => repeat (first | exact (Kd.R_reads' HO_1191002.out).2.2 | (with_reducible refine Kd.C_alloc ?_ _) | (with_reducible refine Kd.C_drewN ?_ _) | (with_reducible refine Kd.C_drew ?_))); (case side2 => exact (Kd.R_reads' HO_1191002.out).2.1); rintro e w67 ⟨rfl, hb⟩; refine ⟨_, rfl, ?_⟩; replace HO_1185002 := cr_ HO_1185002 hb; replace HO_1191002 := cr_ HO_1191002 hb; replace BK1184 := cb_ BK1184 hb; replace BK1190 := cb_ BK1190 hb; replace HB := ch_ HB hb; (try clear hb); (try clear hb2); (try clear hk); (try clear hi); have hcz68_0 : w67.cell? ⟨gb1190, 0, none⟩ = some (.int .i64 t1185) := bc_ BK1190 0; have hcz68_1 : w67.cell? ⟨gb1190, 1, none⟩ = some (.int .i64 t1186) := bc_ BK1190 1; have hcz68_2 : w67.cell? ⟨gb1190, 2, none⟩ = some (.slice Ao18 t1187.length co18) := bc_ BK1190 2; have hfz68_0 := blk_frozen BK1190.out 0; have hfz68_1 := blk_frozen BK1190.out 1; have hfz68_2 := blk_frozen BK1190.out 2; have hcz69_0 : w67.cell? ⟨gb1184, 0, none⟩ = some (.int .i64 t1177) := bc_ BK1184 0; have hcz69_1 : w67.cell? ⟨gb1184, 1, none⟩ = some (.int .i64 t1178) := bc_ BK1184 1; have hcz69_2 : w67.cell? ⟨gb1184, 2, none⟩ = some (.slice Ao13 t1179.length co13) := bc_ BK1184 2; have hfz69_0 := blk_frozen BK1184.out 0; have hfz69_1 := blk_frozen BK1184.out 1; have hfz69_2 := blk_frozen BK1184.out 2))
          go_meet
          case rel => exact ⟨_, (true), (qf1_), H', ⟨qf5_⟩, ⟨rq_ HO_1185002.out⟩, ⟨rq_ HO_1191002.out⟩, ⟨bq_ BK1184.out⟩, ⟨bq_ BK1190.out⟩, ⟨hb_ HB.out⟩⟩
       ·
        replace c41 := Bool.eq_false_iff.mpr c41
        subst c41
        have H1 : (laws_FnTrimmed.j1 kj8 t1182 t1183 (wrap64 ((t1179.length : Int) - (t1187.length : Int))) true t1177 t1178 t1179 t1185 t1186 t1187) = some r := by rw [if_neg (show ¬ (false = true) by decide)] at H; exact H
        clear H
        have H := H1
        clear H1
        have H' := Aside0.mk H
        clear H
        have hnb70 := NB1190_1184.out
        have hnc70 := NB1184_1190.out
        have hcz71_0 : wc.cell? ⟨gb1190, 0, none⟩ = some (.int .i64 t1185) := bc_ BK1190 0
        have hcz71_1 : wc.cell? ⟨gb1190, 1, none⟩ = some (.int .i64 t1186) := bc_ BK1190 1
        have hcz71_2 : wc.cell? ⟨gb1190, 2, none⟩ = some (.slice Ao18 t1187.length co18) := bc_ BK1190 2
        have hfz71_0 := blk_frozen BK1190.out 0
        have hfz71_1 := blk_frozen BK1190.out 1
        have hfz71_2 := blk_frozen BK1190.out 2
        go_wp2_with (first | ((with_reducible refine gate_callee (f := 14) rfl ?_); refine goesL_ (some 50) rfl rfl Try.func14 (by kernel_rfl) rfl #[.agg #[.int .i64 t1185, .int .i64 t1186, .slice Ao18 t1187.length co18]] rfl sm_ ?_; (with_reducible refine (impl_RowOk.calls kj8 t1185 t1186 _ _ t1187 false _ ?side1 ?side2 A40.out).mono ?_); (case side1 => repeat (first | exact (Kd.R_reads' HO_1191002.out).2.2 | (with_reducible refine Kd.C_alloc ?_ _) | (with_reducible refine Kd.C_drewN ?_ _) | (with_reducible refine Kd.C_drew ?_))); (case side2 => exact (Kd.R_reads' HO_1191002.out).2.1); rintro e w72 ⟨rfl, hb⟩; refine ⟨_, rfl, ?_⟩; replace HO_1185002 := cr_ HO_1185002 hb; replace HO_1191002 := cr_ HO_1191002 hb; replace BK1184 := cb_ BK1184 hb; replace BK1190 := cb_ BK1190 hb; replace HB := ch_ HB hb; (try clear hb); (try clear hb2); (try clear hk); (try clear hi)))
        go_meet
        case rel => exact ⟨_, (true), (qf1_), H', ⟨qf5_⟩, ⟨rq_ HO_1185002.out⟩, ⟨rq_ HO_1191002.out⟩, ⟨bq_ BK1184.out⟩, ⟨bq_ BK1190.out⟩, ⟨hb_ HB.out⟩⟩
      case rest =>
       clear HC36
       (try clear c30); (try clear hcz38_0); (try clear hcz38_1); (try clear hcz38_2); (try clear hcz39_0); (try clear hcz39_1); (try clear hcz39_2); (try clear hfz38_0); (try clear hfz38_1); (try clear hfz38_2); (try clear hfz39_0); (try clear hfz39_1); (try clear hfz39_2)
       obtain ⟨kq, x80_35, rfl, HA, HJ35, HO_1185002, HO_1191002, BK1184, BK1190, HB⟩ := hcut
       cases kq with
       | zero => exact absurd HA.out (by simp [laws_FnTrimmed.j1])
       | succ kj35 =>
        have H := HA.out
        clear HA
        simp only [laws_FnTrimmed.j1] at H
        by_cases c73 : x80_35 = true
        ·
         subst c73
         have H1 : (some false) = some r := by rw [if_pos rfl] at H; exact H
         clear H
         have H := H1
         clear H1
         obtain rfl := Option.some.inj H
         go_wp2
         go_ret
         exact ⟨er_, hb_ HB.out⟩
        ·
         replace c73 := Bool.eq_false_iff.mpr c73
         subst c73
         have H1 : (laws_FnTrimmed.l0 kj35 t1182 t1183 (wrap64 ((t1179.length : Int) - (t1187.length : Int))) 0 t1177 t1178 t1179 t1185 t1186 t1187) = some r := by rw [if_neg (show ¬ (false = true) by decide)] at H; exact H
         clear H
         have H := H1
         clear H1
         have H' := Aside0.mk H
         clear H
         go_wp2
         go_loopg [8] kj35 (fun kq v8 w' => ∃ (x8_3 : Int), v8 = .int .i64 x8_3 ∧ Aside0 (laws_FnTrimmed.l0 kq t1182 t1183 (wrap64 ((t1179.length : Int) - (t1187.length : Int))) x8_3 t1177 t1178 t1179 t1185 t1186 t1187 = some r) ∧ Aside0 (kq ≤ kj35) ∧ Aside0 (Kd.R k_Item 33 w' w.heap.size (fun k_ => some k_ ≠ ((.slice Ao18 t1187.length co18) : Value).ownBlock) (.slice Ao13 t1179.length co13) t1179) ∧ Aside0 (Kd.R k_Item 33 w' w.heap.size (fun k_ => some k_ ≠ ((.slice Ao13 t1179.length co13) : Value).ownBlock) (.slice Ao18 t1187.length co18) t1187) ∧ Aside0 (w'.heap[gb1184]? = some (.cells #[.int .i64 t1177, .int .i64 t1178, (.slice Ao13 t1179.length co13)] 26 (0, 0))) ∧ Aside0 (w'.heap[gb1190]? = some (.cells #[.int .i64 t1185, .int .i64 t1186, (.slice Ao18 t1187.length co18)] 26 (0, 0))) ∧ Aside0 (Below w.heap.size w w'))
         case atStart => exact ⟨(0), (qf1_), H', ⟨Nat.le_refl _⟩, ⟨rq_ HO_1185002.out⟩, ⟨rq_ HO_1191002.out⟩, ⟨bq_ BK1184.out⟩, ⟨bq_ BK1190.out⟩, ⟨hb_ HB.out⟩⟩
         case round =>
          clear H'
          (try clear c73)
          obtain ⟨x8_3, rfl, HA, HK3, HO_1185002, HO_1191002, BK1184, BK1190, HB⟩ := hrel
          cases gk with
          | zero => exact absurd HA.out (by simp [laws_FnTrimmed.l0])
          | succ k3 =>
           have H := HA.out
           clear HA
           simp only [laws_FnTrimmed.l0] at H
           by_cases c74 : x8_3 < (t1187.length : Int)
           ·
            rw [if_pos c74] at H
            have c74b0 : decide (x8_3 < (t1187.length : Int)) = true := decide_eq_true c74
            clear c74
            by_cases c75 : 0 ≤ x8_3
            ·
             rw [if_pos c75] at H
             have c75b0 : decide (0 ≤ x8_3) = true := decide_eq_true c75
             clear c75
             obtain ⟨ji76, hji76⟩ : ∃ j_ : Int, (wrap64 ((wrap64 ((t1179.length : Int) - (t1187.length : Int))) + x8_3)) = j_ := ⟨_, rfl⟩
             replace H : (if 0 ≤ (ji76) then (if (ji76) < (t1179.length : Int) then (if (!(((rd_Item t1187 x8_3).f0) == ((rd_Item t1179 (ji76)).f0)) || (!((((rd_Item t1187 x8_3).f1).toList) == (((rd_Item t1179 (ji76)).f1).toList)) || (!((((rd_Item t1187 x8_3).f2).toList) == (((rd_Item t1179 (ji76)).f2).toList)) || (!(((rd_Item t1187 x8_3).f3) == ((rd_Item t1179 (ji76)).f3)) || (!(((rd_Item t1187 x8_3).f4) == ((rd_Item t1179 (ji76)).f4))))))) = true then (some false) else (laws_FnTrimmed.l0 k3 t1182 t1183 (wrap64 ((t1179.length : Int) - (t1187.length : Int))) (wrap64 (x8_3 + 1)) t1177 t1178 t1179 t1185 t1186 t1187)) else (none)) else (none)) = some r := by first | (rw [hji76] at H; exact H) | (simp only [hji76] at H ⊢; exact H)
             have hji76w : (IntKind.i64.wrap ((wrap64 ((t1179.length : Int) - (t1187.length : Int))) + x8_3)) = ji76 := (i64_w _).trans hji76
             by_cases c77 : 0 ≤ (ji76)
             ·
              rw [if_pos c77] at H
              have c77b0 : decide (0 ≤ (ji76)) = true := decide_eq_true c77
              clear c77
              by_cases c78 : (ji76) < (t1179.length : Int)
              ·
               rw [if_pos c78] at H
               have c78b0 : decide ((ji76) < (t1179.length : Int)) = true := decide_eq_true c78
               clear c78
               by_cases c79 : (!(((rd_Item t1187 x8_3).f0) == ((rd_Item t1179 (ji76)).f0)) || (!((((rd_Item t1187 x8_3).f1).toList) == (((rd_Item t1179 (ji76)).f1).toList)) || (!((((rd_Item t1187 x8_3).f2).toList) == (((rd_Item t1179 (ji76)).f2).toList)) || (!(((rd_Item t1187 x8_3).f3) == ((rd_Item t1179 (ji76)).f3)) || (!(((rd_Item t1187 x8_3).f4) == ((rd_Item t1179 (ji76)).f4))))))) = true
               ·
                rw [if_pos c79] at H
                have c79b0 : (!(((rd_Item t1187 x8_3).f0) == ((rd_Item t1179 (ji76)).f0)) || (!((((rd_Item t1187 x8_3).f1).toList) == (((rd_Item t1179 (ji76)).f1).toList)) || (!((((rd_Item t1187 x8_3).f2).toList) == (((rd_Item t1179 (ji76)).f2).toList)) || (!(((rd_Item t1187 x8_3).f3) == ((rd_Item t1179 (ji76)).f3)) || (!(((rd_Item t1187 x8_3).f4) == ((rd_Item t1179 (ji76)).f4))))))) = true := c79
                clear c79
                obtain rfl := Option.some.inj H
                have hnb80 := NB1190_1184.out
                have hnc80 := NB1184_1190.out
                have hcz81_0 : wr.cell? ⟨gb1190, 0, none⟩ = some (.int .i64 t1185) := bc_ BK1190 0
                have hcz81_1 : wr.cell? ⟨gb1190, 1, none⟩ = some (.int .i64 t1186) := bc_ BK1190 1
                have hcz81_2 : wr.cell? ⟨gb1190, 2, none⟩ = some (.slice Ao18 t1187.length co18) := bc_ BK1190 2
                have hfz81_0 := blk_frozen BK1190.out 0
                have hfz81_1 := blk_frozen BK1190.out 1
                have hfz81_2 := blk_frozen BK1190.out 2
                try go_wp2
                replace HO_1185002 := Aside0.mk (Kd.R_drew HO_1185002.out)
                replace HO_1191002 := Aside0.mk (Kd.R_drew HO_1191002.out)
                replace BK1184 := Aside0.mk (blk_drew BK1184.out)
                replace BK1190 := Aside0.mk (blk_drew BK1190.out)
                replace HB := Aside0.mk (below_drew1 HB.out)
                have p1200 : 0 ≤ (x8_3 : Int) := of_decide_eq_true dt_
                have q1200 : x8_3 < (t1187.length : Int) := of_decide_eq_true dt_
                obtain ⟨ad1200, e1200, hx1200_0, hx1200_1, hx1200_2, hx1200_3, hx1200_4⟩ := at_Item (Kd.R_reads' HO_1191002.out).2.2 x8_3 p1200 q1200
                cases e1200
                replace p1200 := eq_true p1200
                replace q1200 := eq_true q1200
                have p1201 : 0 ≤ ((ji76) : Int) := of_decide_eq_true dt_
                have q1201 : (ji76) < (t1179.length : Int) := of_decide_eq_true dt_
                obtain ⟨ad1201, e1201, hx1201_0, hx1201_1, hx1201_2, hx1201_3, hx1201_4⟩ := at_Item (Kd.R_reads' HO_1185002.out).2.2 (ji76) p1201 q1201
                cases e1201
                replace p1201 := eq_true p1201
                replace q1201 := eq_true q1201
                refine start_ (n := 13) (S := fun w' => w'.cell? ⟨gb1190, 0, none⟩ = some (.int .i64 t1185) ∧ w'.cell? ⟨gb1190, 1, none⟩ = some (.int .i64 t1186) ∧ w'.cell? ⟨gb1190, 2, none⟩ = some (.slice (some ad1200) t1187.length co18) ∧ w'.cell? ⟨gb1184, 0, none⟩ = some (.int .i64 t1177) ∧ w'.cell? ⟨gb1184, 1, none⟩ = some (.int .i64 t1178) ∧ w'.cell? ⟨gb1184, 2, none⟩ = some (.slice (some ad1201) t1179.length co13) ∧ w'.cell? (ad1200.add ((x8_3).toNat * 5)) = some (.int .i64 ((rd_Item t1187 x8_3).f0)) ∧ w'.cell? ⟨(ad1200.add ((x8_3).toNat * 5)).block, (ad1200.add ((x8_3).toNat * 5)).off + 1, none⟩ = some (.string ((rd_Item t1187 x8_3).f1)) ∧ w'.cell? ⟨(ad1200.add ((x8_3).toNat * 5)).block, (ad1200.add ((x8_3).toNat * 5)).off + 2, none⟩ = some (.string ((rd_Item t1187 x8_3).f2)) ∧ w'.cell? ⟨(ad1200.add ((x8_3).toNat * 5)).block, (ad1200.add ((x8_3).toNat * 5)).off + 3, none⟩ = some (.int .i64 ((rd_Item t1187 x8_3).f3)) ∧ w'.cell? ⟨(ad1200.add ((x8_3).toNat * 5)).block, (ad1200.add ((x8_3).toNat * 5)).off + 4, none⟩ = some (.int .i64 ((rd_Item t1187 x8_3).f4)) ∧ w'.cell? (ad1201.add (((ji76)).toNat * 5)) = some (.int .i64 ((rd_Item t1179 (ji76)).f0)) ∧ w'.cell? ⟨(ad1201.add (((ji76)).toNat * 5)).block, (ad1201.add (((ji76)).toNat * 5)).off + 1, none⟩ = some (.string ((rd_Item t1179 (ji76)).f1)) ∧ w'.cell? ⟨(ad1201.add (((ji76)).toNat * 5)).block, (ad1201.add (((ji76)).toNat * 5)).off + 2, none⟩ = some (.string ((rd_Item t1179 (ji76)).f2)) ∧ w'.cell? ⟨(ad1201.add (((ji76)).toNat * 5)).block, (ad1201.add (((ji76)).toNat * 5)).off + 3, none⟩ = some (.int .i64 ((rd_Item t1179 (ji76)).f3)) ∧ w'.cell? ⟨(ad1201.add (((ji76)).toNat * 5)).block, (ad1201.add (((ji76)).toNat * 5)).off + 4, none⟩ = some (.int .i64 ((rd_Item t1179 (ji76)).f4))) (ds := []) laws_FnTrimmed.m0 (by kernel_rfl) rfl rfl ⟨bc_ BK1190 0, bc_ BK1190 1, bc_ BK1190 2, bc_ BK1184 0, bc_ BK1184 1, bc_ BK1184 2, hx1200_0, hx1200_1, hx1200_2, hx1200_3, hx1200_4, hx1201_0, hx1201_1, hx1201_2, hx1201_3, hx1201_4⟩ (fun hHeld => ?_); refine with_tabW laws_FnTrimmed.tab15 laws_FnTrimmed.bits15 (fun HT_ HW_ => ?_)
                generalize wr.drew = w82 at HO_1185002 HO_1191002 BK1184 BK1190 HB hx1200_0 hx1200_1 hx1200_2 hx1200_3 hx1200_4 hx1201_0 hx1201_1 hx1201_2 hx1201_3 hx1201_4 hHeld ⊢
                refine pI_ 0 88 HT_ laws_FnTrimmed.m1 rfl rfl ?_
                refine pI_ 2 90 HT_ laws_FnTrimmed.m2 rfl rfl ?_
                refine pI_ 5 93 HT_ laws_FnTrimmed.m3 rfl rfl ?_
                refine pI_ 7 95 HT_ laws_FnTrimmed.m4 rfl rfl ?_
                refine pI_ 8 96 HT_ laws_FnTrimmed.m5 rfl rfl ?_
                refine pI_ 9 97 HT_ laws_FnTrimmed.m6 rfl rfl ?_
                refine tk_ 1 89 HT_ HW_ laws_FnTrimmed.m7 rfl rfl hHeld ?_
                refine pI_ 3 91 HT_ laws_FnTrimmed.m8 rfl rfl ?_
                refine tk_ 4 92 HT_ HW_ laws_FnTrimmed.m9 rfl rfl hHeld ?_
                refine tk_ 6 94 HT_ HW_ laws_FnTrimmed.m10 rfl rfl hHeld ?_
                refine pI_ 10 98 HT_ laws_FnTrimmed.m11 rfl rfl ?_
                refine tk_ 11 99 HT_ HW_ laws_FnTrimmed.m12 rfl rfl hHeld ?_
                refine pI_ 12 100 HT_ laws_FnTrimmed.m13 rfl rfl ?_
                refine done_ (done_of HT_.out (by kernel_rfl)) ?_
                try go_wp2
                go_ret
                exact ⟨by first | rfl | (simp [errW_none, errW_some] <;> rfl) | (simp only [← hji76]; first | rfl | (simp [errW_none, errW_some] <;> rfl)) | (simp [*, errW_none, errW_some] <;> rfl), hb_ HB.out⟩
               ·
                rw [if_neg c79] at H
                have c79b0 : (!(((rd_Item t1187 x8_3).f0) == ((rd_Item t1179 (ji76)).f0)) || (!((((rd_Item t1187 x8_3).f1).toList) == (((rd_Item t1179 (ji76)).f1).toList)) || (!((((rd_Item t1187 x8_3).f2).toList) == (((rd_Item t1179 (ji76)).f2).toList)) || (!(((rd_Item t1187 x8_3).f3) == ((rd_Item t1179 (ji76)).f3)) || (!(((rd_Item t1187 x8_3).f4) == ((rd_Item t1179 (ji76)).f4))))))) = false := by simpa using c79
                clear c79
                have H' := Aside0.mk H
                clear H
                have hnb83 := NB1190_1184.out
                have hnc83 := NB1184_1190.out
                have hcz84_0 : wr.cell? ⟨gb1190, 0, none⟩ = some (.int .i64 t1185) := bc_ BK1190 0
                have hcz84_1 : wr.cell? ⟨gb1190, 1, none⟩ = some (.int .i64 t1186) := bc_ BK1190 1
                have hcz84_2 : wr.cell? ⟨gb1190, 2, none⟩ = some (.slice Ao18 t1187.length co18) := bc_ BK1190 2
                have hfz84_0 := blk_frozen BK1190.out 0
                have hfz84_1 := blk_frozen BK1190.out 1
                have hfz84_2 := blk_frozen BK1190.out 2
                try go_wp2
                replace HO_1185002 := Aside0.mk (Kd.R_drew HO_1185002.out)
                replace HO_1191002 := Aside0.mk (Kd.R_drew HO_1191002.out)
                replace BK1184 := Aside0.mk (blk_drew BK1184.out)
                replace BK1190 := Aside0.mk (blk_drew BK1190.out)
                replace HB := Aside0.mk (below_drew1 HB.out)
                have p1200 : 0 ≤ (x8_3 : Int) := of_decide_eq_true dt_
                have q1200 : x8_3 < (t1187.length : Int) := of_decide_eq_true dt_
                obtain ⟨ad1200, e1200, hx1200_0, hx1200_1, hx1200_2, hx1200_3, hx1200_4⟩ := at_Item (Kd.R_reads' HO_1191002.out).2.2 x8_3 p1200 q1200
                cases e1200
                replace p1200 := eq_true p1200
                replace q1200 := eq_true q1200
                have p1201 : 0 ≤ ((ji76) : Int) := of_decide_eq_true dt_
                have q1201 : (ji76) < (t1179.length : Int) := of_decide_eq_true dt_
                obtain ⟨ad1201, e1201, hx1201_0, hx1201_1, hx1201_2, hx1201_3, hx1201_4⟩ := at_Item (Kd.R_reads' HO_1185002.out).2.2 (ji76) p1201 q1201
                cases e1201
                replace p1201 := eq_true p1201
                replace q1201 := eq_true q1201
                refine start_ (n := 13) (S := fun w' => w'.cell? ⟨gb1190, 0, none⟩ = some (.int .i64 t1185) ∧ w'.cell? ⟨gb1190, 1, none⟩ = some (.int .i64 t1186) ∧ w'.cell? ⟨gb1190, 2, none⟩ = some (.slice (some ad1200) t1187.length co18) ∧ w'.cell? ⟨gb1184, 0, none⟩ = some (.int .i64 t1177) ∧ w'.cell? ⟨gb1184, 1, none⟩ = some (.int .i64 t1178) ∧ w'.cell? ⟨gb1184, 2, none⟩ = some (.slice (some ad1201) t1179.length co13) ∧ w'.cell? (ad1200.add ((x8_3).toNat * 5)) = some (.int .i64 ((rd_Item t1187 x8_3).f0)) ∧ w'.cell? ⟨(ad1200.add ((x8_3).toNat * 5)).block, (ad1200.add ((x8_3).toNat * 5)).off + 1, none⟩ = some (.string ((rd_Item t1187 x8_3).f1)) ∧ w'.cell? ⟨(ad1200.add ((x8_3).toNat * 5)).block, (ad1200.add ((x8_3).toNat * 5)).off + 2, none⟩ = some (.string ((rd_Item t1187 x8_3).f2)) ∧ w'.cell? ⟨(ad1200.add ((x8_3).toNat * 5)).block, (ad1200.add ((x8_3).toNat * 5)).off + 3, none⟩ = some (.int .i64 ((rd_Item t1187 x8_3).f3)) ∧ w'.cell? ⟨(ad1200.add ((x8_3).toNat * 5)).block, (ad1200.add ((x8_3).toNat * 5)).off + 4, none⟩ = some (.int .i64 ((rd_Item t1187 x8_3).f4)) ∧ w'.cell? (ad1201.add (((ji76)).toNat * 5)) = some (.int .i64 ((rd_Item t1179 (ji76)).f0)) ∧ w'.cell? ⟨(ad1201.add (((ji76)).toNat * 5)).block, (ad1201.add (((ji76)).toNat * 5)).off + 1, none⟩ = some (.string ((rd_Item t1179 (ji76)).f1)) ∧ w'.cell? ⟨(ad1201.add (((ji76)).toNat * 5)).block, (ad1201.add (((ji76)).toNat * 5)).off + 2, none⟩ = some (.string ((rd_Item t1179 (ji76)).f2)) ∧ w'.cell? ⟨(ad1201.add (((ji76)).toNat * 5)).block, (ad1201.add (((ji76)).toNat * 5)).off + 3, none⟩ = some (.int .i64 ((rd_Item t1179 (ji76)).f3)) ∧ w'.cell? ⟨(ad1201.add (((ji76)).toNat * 5)).block, (ad1201.add (((ji76)).toNat * 5)).off + 4, none⟩ = some (.int .i64 ((rd_Item t1179 (ji76)).f4))) (ds := []) laws_FnTrimmed.m0 (by kernel_rfl) rfl rfl ⟨bc_ BK1190 0, bc_ BK1190 1, bc_ BK1190 2, bc_ BK1184 0, bc_ BK1184 1, bc_ BK1184 2, hx1200_0, hx1200_1, hx1200_2, hx1200_3, hx1200_4, hx1201_0, hx1201_1, hx1201_2, hx1201_3, hx1201_4⟩ (fun hHeld => ?_); refine with_tabW laws_FnTrimmed.tab15 laws_FnTrimmed.bits15 (fun HT_ HW_ => ?_)
                generalize wr.drew = w85 at HO_1185002 HO_1191002 BK1184 BK1190 HB hx1200_0 hx1200_1 hx1200_2 hx1200_3 hx1200_4 hx1201_0 hx1201_1 hx1201_2 hx1201_3 hx1201_4 hHeld ⊢
                refine pI_ 0 88 HT_ laws_FnTrimmed.m1 rfl rfl ?_
                refine pI_ 2 90 HT_ laws_FnTrimmed.m2 rfl rfl ?_
                refine pI_ 5 93 HT_ laws_FnTrimmed.m3 rfl rfl ?_
                refine pI_ 7 95 HT_ laws_FnTrimmed.m4 rfl rfl ?_
                refine pI_ 8 96 HT_ laws_FnTrimmed.m5 rfl rfl ?_
                refine pI_ 9 97 HT_ laws_FnTrimmed.m6 rfl rfl ?_
                refine tk_ 1 89 HT_ HW_ laws_FnTrimmed.m7 rfl rfl hHeld ?_
                refine pI_ 3 91 HT_ laws_FnTrimmed.m8 rfl rfl ?_
                refine tk_ 4 92 HT_ HW_ laws_FnTrimmed.m9 rfl rfl hHeld ?_
                refine tk_ 6 94 HT_ HW_ laws_FnTrimmed.m10 rfl rfl hHeld ?_
                refine pI_ 10 98 HT_ laws_FnTrimmed.m11 rfl rfl ?_
                refine tk_ 11 99 HT_ HW_ laws_FnTrimmed.m12 rfl rfl hHeld ?_
                refine pI_ 12 100 HT_ laws_FnTrimmed.m13 rfl rfl ?_
                refine done_ (done_of HT_.out (by kernel_rfl)) ?_
                try go_wp2
                go_roundg k3
                case measure => have := HJ8.out; have := HJ35.out; have := HK3.out; omega
                case rel => exact ⟨(wrap64 (x8_3 + 1)), (qf1_), H', ⟨by have := HJ8.out; have := HJ35.out; have := HK3.out; omega⟩, ⟨rq_ HO_1185002.out⟩, ⟨rq_ HO_1191002.out⟩, ⟨bq_ BK1184.out⟩, ⟨bq_ BK1190.out⟩, ⟨hb_ HB.out⟩⟩
              ·
               rw [if_neg c78] at H
               exact absurd H (by simp)
             ·
              rw [if_neg c77] at H
              exact absurd H (by simp)
            ·
             rw [if_neg c75] at H
             exact absurd H (by simp)
           ·
            rw [if_neg c74] at H
            have c74b0 : decide (x8_3 < (t1187.length : Int)) = false := decide_eq_false c74
            clear c74
            by_cases c86 : (t1187.length : Int) ≤ t1183
            ·
             rw [if_pos c86] at H
             have c86b0 : decide ((t1187.length : Int) ≤ t1183) = true := decide_eq_true c86
             clear c86
             obtain rfl := Option.some.inj H
             have hnb87 := NB1190_1184.out
             have hnc87 := NB1184_1190.out
             have hcz88_0 : wr.cell? ⟨gb1190, 0, none⟩ = some (.int .i64 t1185) := bc_ BK1190 0
             have hcz88_1 : wr.cell? ⟨gb1190, 1, none⟩ = some (.int .i64 t1186) := bc_ BK1190 1
             have hcz88_2 : wr.cell? ⟨gb1190, 2, none⟩ = some (.slice Ao18 t1187.length co18) := bc_ BK1190 2
             have hfz88_0 := blk_frozen BK1190.out 0
             have hfz88_1 := blk_frozen BK1190.out 1
             have hfz88_2 := blk_frozen BK1190.out 2
             try go_wp2
             replace HO_1185002 := Aside0.mk (Kd.R_drew HO_1185002.out)
             replace HO_1191002 := Aside0.mk (Kd.R_drew HO_1191002.out)
             replace BK1184 := Aside0.mk (blk_drew BK1184.out)
             replace BK1190 := Aside0.mk (blk_drew BK1190.out)
             replace HB := Aside0.mk (below_drew1 HB.out)
             refine start_ (n := 27) (S := fun w' => w'.cell? ⟨gb1190, 0, none⟩ = some (.int .i64 t1185) ∧ w'.cell? ⟨gb1190, 1, none⟩ = some (.int .i64 t1186) ∧ w'.cell? ⟨gb1190, 2, none⟩ = some (.slice Ao18 t1187.length co18)) (ds := []) laws_FnTrimmed.m14 (by kernel_rfl) rfl rfl ⟨bc_ BK1190 0, bc_ BK1190 1, bc_ BK1190 2⟩ (fun hHeld => ?_); refine with_tabW laws_FnTrimmed.tab17 laws_FnTrimmed.bits17 (fun HT_ HW_ => ?_)
             generalize wr.drew = w89 at HO_1185002 HO_1191002 BK1184 BK1190 HB hHeld ⊢
             refine pI_ 0 101 HT_ laws_FnTrimmed.m15 rfl rfl ?_
             refine pI_ 3 104 HT_ laws_FnTrimmed.m16 rfl rfl ?_
             refine tk_ 1 102 HT_ HW_ laws_FnTrimmed.m17 rfl rfl hHeld ?_
             refine pI_ 2 103 HT_ laws_FnTrimmed.m18 rfl rfl ?_
             refine pI_ 4 105 HT_ laws_FnTrimmed.m19 rfl rfl ?_
             refine pI_ 5 106 HT_ laws_FnTrimmed.m20 rfl rfl ?_
             refine pU_ 6 107 HT_ laws_FnTrimmed.m21 rfl rfl ?_
             refine pU_ 7 108 HT_ laws_FnTrimmed.m22 rfl rfl ?_
             refine pU_ 8 109 HT_ laws_FnTrimmed.m23 rfl rfl ?_
             refine pU_ 9 110 HT_ laws_FnTrimmed.m24 rfl rfl ?_
             refine pU_ 10 111 HT_ laws_FnTrimmed.m25 rfl rfl ?_
             refine pU_ 11 112 HT_ laws_FnTrimmed.m26 rfl rfl ?_
             refine pU_ 12 113 HT_ laws_FnTrimmed.m27 rfl rfl ?_
             refine pU_ 13 114 HT_ laws_FnTrimmed.m28 rfl rfl ?_
             refine pU_ 14 115 HT_ laws_FnTrimmed.m29 rfl rfl ?_
             refine pU_ 15 116 HT_ laws_FnTrimmed.m30 rfl rfl ?_
             refine pU_ 16 117 HT_ laws_FnTrimmed.m31 rfl rfl ?_
             refine pU_ 17 118 HT_ laws_FnTrimmed.m32 rfl rfl ?_
             refine pU_ 18 119 HT_ laws_FnTrimmed.m33 rfl rfl ?_
             refine pU_ 19 120 HT_ laws_FnTrimmed.m34 rfl rfl ?_
             refine pU_ 20 121 HT_ laws_FnTrimmed.m35 rfl rfl ?_
             refine pU_ 21 122 HT_ laws_FnTrimmed.m36 rfl rfl ?_
             refine pU_ 22 123 HT_ laws_FnTrimmed.m37 rfl rfl ?_
             refine pU_ 23 124 HT_ laws_FnTrimmed.m38 rfl rfl ?_
             refine pU_ 24 125 HT_ laws_FnTrimmed.m39 rfl rfl ?_
             refine pI_ 25 126 HT_ laws_FnTrimmed.m40 rfl rfl ?_
             refine pI_ 26 2 HT_ laws_FnTrimmed.m41 rfl rfl ?_
             refine done_ (done_of HT_.out (by kernel_rfl)) ?_
             try go_wp2
             go_ret
             exact ⟨er_, hb_ HB.out⟩
            ·
             rw [if_neg c86] at H
             have c86b0 : decide ((t1187.length : Int) ≤ t1183) = false := decide_eq_false c86
             clear c86
             by_cases c90 : (t1187.length : Int) > 0
             ·
              rw [if_pos c90] at H
              have c90b0 : decide (0 < (t1187.length : Int)) = true := decide_eq_true c90
              have c90b1 : decide (0 < t1187.length) = true := decide_eq_true (by omega)
              clear c90
              by_cases c91 : 0 < (t1187.length : Int)
              ·
               rw [if_pos c91] at H
               have c91b0 : decide (0 < (t1187.length : Int)) = true := decide_eq_true c91
               have c91b1 : decide (0 < t1187.length) = true := decide_eq_true (by omega)
               clear c91
               by_cases c92 : t1182 = 0
               ·
                rw [if_pos c92] at H
                exact absurd H (by simp)
               ·
                rw [if_neg c92] at H
                have c92b0 : (t1182 == 0) = false := beq_eq_false_iff_ne.mpr c92
                have c92b1 : (t1182 != 0) = true := bne_iff_ne.mpr c92
                obtain rfl := Option.some.inj H
                have hnb93 := NB1190_1184.out
                have hnc93 := NB1184_1190.out
                have hcz94_0 : wr.cell? ⟨gb1190, 0, none⟩ = some (.int .i64 t1185) := bc_ BK1190 0
                have hcz94_1 : wr.cell? ⟨gb1190, 1, none⟩ = some (.int .i64 t1186) := bc_ BK1190 1
                have hcz94_2 : wr.cell? ⟨gb1190, 2, none⟩ = some (.slice Ao18 t1187.length co18) := bc_ BK1190 2
                have hfz94_0 := blk_frozen BK1190.out 0
                have hfz94_1 := blk_frozen BK1190.out 1
                have hfz94_2 := blk_frozen BK1190.out 2
                try go_wp2
                replace HO_1185002 := Aside0.mk (Kd.R_drew HO_1185002.out)
                replace HO_1191002 := Aside0.mk (Kd.R_drew HO_1191002.out)
                replace BK1184 := Aside0.mk (blk_drew BK1184.out)
                replace BK1190 := Aside0.mk (blk_drew BK1190.out)
                replace HB := Aside0.mk (below_drew1 HB.out)
                have p1202 : 0 ≤ (0 : Int) := (by omega)
                have q1202 : 0 < (t1187.length : Int) := of_decide_eq_true dt_
                obtain ⟨ad1202, e1202, hx1202_0, hx1202_1, hx1202_2, hx1202_3, hx1202_4⟩ := at_Item (Kd.R_reads' HO_1191002.out).2.2 0 p1202 q1202
                cases e1202
                have qi1202 : (0 < t1187.length) = True := eq_true (by omega)
                (try rw [show ((0 : Int)).toNat = 0 from rfl] at hx1202_0)
                (try rw [show 0 * 5 = 0 from rfl] at hx1202_0)
                (try rw [Addr.add_zero'] at hx1202_0)
                (try rw [show ((0 : Int)).toNat = 0 from rfl] at hx1202_1)
                (try rw [show 0 * 5 = 0 from rfl] at hx1202_1)
                (try rw [Addr.add_zero'] at hx1202_1)
                (try rw [show ((0 : Int)).toNat = 0 from rfl] at hx1202_2)
                (try rw [show 0 * 5 = 0 from rfl] at hx1202_2)
                (try rw [Addr.add_zero'] at hx1202_2)
                (try rw [show ((0 : Int)).toNat = 0 from rfl] at hx1202_3)
                (try rw [show 0 * 5 = 0 from rfl] at hx1202_3)
                (try rw [Addr.add_zero'] at hx1202_3)
                (try rw [show ((0 : Int)).toNat = 0 from rfl] at hx1202_4)
                (try rw [show 0 * 5 = 0 from rfl] at hx1202_4)
                (try rw [Addr.add_zero'] at hx1202_4)
                replace p1202 := eq_true p1202
                replace q1202 := eq_true q1202
                refine start_ (n := 27) (S := fun w' => w'.cell? ⟨gb1190, 0, none⟩ = some (.int .i64 t1185) ∧ w'.cell? ⟨gb1190, 1, none⟩ = some (.int .i64 t1186) ∧ w'.cell? ⟨gb1190, 2, none⟩ = some (.slice (some ad1202) t1187.length co18) ∧ w'.cell? ad1202 = some (.int .i64 ((rd_Item t1187 0).f0)) ∧ w'.cell? ⟨ad1202.block, ad1202.off + 1, none⟩ = some (.string ((rd_Item t1187 0).f1)) ∧ w'.cell? ⟨ad1202.block, ad1202.off + 2, none⟩ = some (.string ((rd_Item t1187 0).f2)) ∧ w'.cell? ⟨ad1202.block, ad1202.off + 3, none⟩ = some (.int .i64 ((rd_Item t1187 0).f3)) ∧ w'.cell? ⟨ad1202.block, ad1202.off + 4, none⟩ = some (.int .i64 ((rd_Item t1187 0).f4))) (ds := []) laws_FnTrimmed.m14 (by kernel_rfl) rfl rfl ⟨bc_ BK1190 0, bc_ BK1190 1, bc_ BK1190 2, hx1202_0, hx1202_1, hx1202_2, hx1202_3, hx1202_4⟩ (fun hHeld => ?_); refine with_tabW laws_FnTrimmed.tab17 laws_FnTrimmed.bits17 (fun HT_ HW_ => ?_)
                generalize wr.drew = w95 at HO_1185002 HO_1191002 BK1184 BK1190 HB hx1202_0 hx1202_1 hx1202_2 hx1202_3 hx1202_4 hHeld ⊢
                refine pI_ 0 101 HT_ laws_FnTrimmed.m15 rfl rfl ?_
                refine pI_ 3 104 HT_ laws_FnTrimmed.m16 rfl rfl ?_
                refine tk_ 1 102 HT_ HW_ laws_FnTrimmed.m17 rfl rfl hHeld ?_
                refine pI_ 2 103 HT_ laws_FnTrimmed.m18 rfl rfl ?_
                refine pI_ 4 105 HT_ laws_FnTrimmed.m19 rfl rfl ?_
                refine pI_ 5 106 HT_ laws_FnTrimmed.m20 rfl rfl ?_
                refine pI_ 6 107 HT_ laws_FnTrimmed.m21 rfl rfl ?_
                refine tk_ 7 108 HT_ HW_ laws_FnTrimmed.m22 rfl rfl hHeld ?_
                refine pI_ 8 109 HT_ laws_FnTrimmed.m23 rfl rfl ?_
                refine pI_ 9 110 HT_ laws_FnTrimmed.m24 rfl rfl ?_
                refine pI_ 10 111 HT_ laws_FnTrimmed.m25 rfl rfl ?_
                refine pI_ 11 112 HT_ laws_FnTrimmed.m26 rfl rfl ?_
                refine pI_ 16 117 HT_ #[true, true, true, true, true, true, true, true, true, true, true, true, false, false, false, false, true, false, false, false, false, false, false, false, false, false, false] rfl rfl ?_
                refine pI_ 18 119 HT_ #[true, true, true, true, true, true, true, true, true, true, true, true, false, false, false, false, true, false, true, false, false, false, false, false, false, false, false] rfl rfl ?_
                refine pI_ 21 122 HT_ #[true, true, true, true, true, true, true, true, true, true, true, true, false, false, false, false, true, false, true, false, false, true, false, false, false, false, false] rfl rfl ?_
                refine tk_ 12 113 HT_ HW_ #[true, true, true, true, true, true, true, true, true, true, true, true, true, false, false, false, true, false, true, false, false, true, false, false, false, false, false] rfl rfl hHeld ?_
                refine pI_ 13 114 HT_ #[true, true, true, true, true, true, true, true, true, true, true, true, true, true, false, false, true, false, true, false, false, true, false, false, false, false, false] rfl rfl ?_
                refine pI_ 14 115 HT_ #[true, true, true, true, true, true, true, true, true, true, true, true, true, true, true, false, true, false, true, false, false, true, false, false, false, false, false] rfl rfl ?_
                refine tk_ 15 116 HT_ HW_ #[true, true, true, true, true, true, true, true, true, true, true, true, true, true, true, true, true, false, true, false, false, true, false, false, false, false, false] rfl rfl hHeld ?_
                refine pI_ 17 118 HT_ #[true, true, true, true, true, true, true, true, true, true, true, true, true, true, true, true, true, true, true, false, false, true, false, false, false, false, false] rfl rfl ?_
                refine tk_ 19 120 HT_ HW_ #[true, true, true, true, true, true, true, true, true, true, true, true, true, true, true, true, true, true, true, true, false, true, false, false, false, false, false] rfl rfl hHeld ?_
                refine pI_ 20 121 HT_ laws_FnTrimmed.m36 rfl rfl ?_
                refine pI_ 22 123 HT_ laws_FnTrimmed.m37 rfl rfl ?_
                refine pI_ 23 124 HT_ laws_FnTrimmed.m38 rfl rfl ?_
                refine pI_ 24 125 HT_ laws_FnTrimmed.m39 rfl rfl ?_
                refine pI_ 25 126 HT_ laws_FnTrimmed.m40 rfl rfl ?_
                refine pI_ 26 2 HT_ laws_FnTrimmed.m41 rfl rfl ?_
                refine done_ (done_of HT_.out (by kernel_rfl)) ?_
                try go_wp2
                go_ret
                exact ⟨er_, hb_ HB.out⟩
              ·
               rw [if_neg c91] at H
               exact absurd H (by simp)
             ·
              rw [if_neg c90] at H
              have c90b0 : decide (0 < (t1187.length : Int)) = false := decide_eq_false c90
              have c90b1 : decide (0 < t1187.length) = false := decide_eq_false (by omega)
              clear c90
              obtain rfl := Option.some.inj H
              have hnb96 := NB1190_1184.out
              have hnc96 := NB1184_1190.out
              have hcz97_0 : wr.cell? ⟨gb1190, 0, none⟩ = some (.int .i64 t1185) := bc_ BK1190 0
              have hcz97_1 : wr.cell? ⟨gb1190, 1, none⟩ = some (.int .i64 t1186) := bc_ BK1190 1
              have hcz97_2 : wr.cell? ⟨gb1190, 2, none⟩ = some (.slice Ao18 t1187.length co18) := bc_ BK1190 2
              have hfz97_0 := blk_frozen BK1190.out 0
              have hfz97_1 := blk_frozen BK1190.out 1
              have hfz97_2 := blk_frozen BK1190.out 2
              try go_wp2
              replace HO_1185002 := Aside0.mk (Kd.R_drew HO_1185002.out)
              replace HO_1191002 := Aside0.mk (Kd.R_drew HO_1191002.out)
              replace BK1184 := Aside0.mk (blk_drew BK1184.out)
              replace BK1190 := Aside0.mk (blk_drew BK1190.out)
              replace HB := Aside0.mk (below_drew1 HB.out)
              refine start_ (n := 27) (S := fun w' => w'.cell? ⟨gb1190, 0, none⟩ = some (.int .i64 t1185) ∧ w'.cell? ⟨gb1190, 1, none⟩ = some (.int .i64 t1186) ∧ w'.cell? ⟨gb1190, 2, none⟩ = some (.slice Ao18 t1187.length co18)) (ds := []) laws_FnTrimmed.m14 (by kernel_rfl) rfl rfl ⟨bc_ BK1190 0, bc_ BK1190 1, bc_ BK1190 2⟩ (fun hHeld => ?_); refine with_tabW laws_FnTrimmed.tab17 laws_FnTrimmed.bits17 (fun HT_ HW_ => ?_)
              generalize wr.drew = w98 at HO_1185002 HO_1191002 BK1184 BK1190 HB hHeld ⊢
              refine pI_ 0 101 HT_ laws_FnTrimmed.m15 rfl rfl ?_
              refine pI_ 3 104 HT_ laws_FnTrimmed.m16 rfl rfl ?_
              refine tk_ 1 102 HT_ HW_ laws_FnTrimmed.m17 rfl rfl hHeld ?_
              refine pI_ 2 103 HT_ laws_FnTrimmed.m18 rfl rfl ?_
              refine pI_ 4 105 HT_ laws_FnTrimmed.m19 rfl rfl ?_
              refine pI_ 5 106 HT_ laws_FnTrimmed.m20 rfl rfl ?_
              refine pI_ 6 107 HT_ laws_FnTrimmed.m21 rfl rfl ?_
              refine tk_ 7 108 HT_ HW_ laws_FnTrimmed.m22 rfl rfl hHeld ?_
              refine pI_ 8 109 HT_ laws_FnTrimmed.m23 rfl rfl ?_
              refine pI_ 9 110 HT_ laws_FnTrimmed.m24 rfl rfl ?_
              refine pI_ 10 111 HT_ laws_FnTrimmed.m25 rfl rfl ?_
              refine pU_ 11 112 HT_ laws_FnTrimmed.m26 rfl rfl ?_
              refine pU_ 12 113 HT_ laws_FnTrimmed.m27 rfl rfl ?_
              refine pU_ 13 114 HT_ laws_FnTrimmed.m28 rfl rfl ?_
              refine pU_ 14 115 HT_ laws_FnTrimmed.m29 rfl rfl ?_
              refine pU_ 15 116 HT_ laws_FnTrimmed.m30 rfl rfl ?_
              refine pU_ 16 117 HT_ laws_FnTrimmed.m31 rfl rfl ?_
              refine pU_ 17 118 HT_ laws_FnTrimmed.m32 rfl rfl ?_
              refine pU_ 18 119 HT_ laws_FnTrimmed.m33 rfl rfl ?_
              refine pU_ 19 120 HT_ laws_FnTrimmed.m34 rfl rfl ?_
              refine pU_ 20 121 HT_ laws_FnTrimmed.m35 rfl rfl ?_
              refine pU_ 21 122 HT_ laws_FnTrimmed.m36 rfl rfl ?_
              refine pU_ 22 123 HT_ laws_FnTrimmed.m37 rfl rfl ?_
              refine pU_ 23 124 HT_ laws_FnTrimmed.m38 rfl rfl ?_
              refine pI_ 24 125 HT_ laws_FnTrimmed.m39 rfl rfl ?_
              refine pI_ 25 126 HT_ laws_FnTrimmed.m40 rfl rfl ?_
              refine pI_ 26 2 HT_ laws_FnTrimmed.m41 rfl rfl ?_
              refine done_ (done_of HT_.out (by kernel_rfl)) ?_
              try go_wp2
              go_ret
              exact ⟨er_, hb_ HB.out⟩
  ·
   replace c8 := Bool.eq_false_iff.mpr c8
   subst c8
   have H1 : (some false) = some r := by rw [if_neg (show ¬ (false = true) by decide)] at H; exact H
   clear H
   have H := H1
   clear H1
   obtain rfl := Option.some.inj H
   go_enter Try.func3, Try.ntmps3
   try go_wp2_with (first | ((with_reducible refine gate_callee (f := 9) rfl ?_); refine goesL_ (some 10) rfl rfl Try.func9 (by kernel_rfl) rfl #[.slice A0 l0.length c0] rfl sm_ ?_; (with_reducible refine (laws_big.calls _ _ l0 false _ ?side1 ?side2 A2.out).mono ?_); (case side1 => repeat (first | exact HR0.out | (with_reducible refine Kd.C_alloc ?_ _) | (with_reducible refine Kd.C_drewN ?_ _) | (with_reducible refine Kd.C_drew ?_))); (case side2 => exact HC0.out); rintro e w' ⟨rfl, ⟨nd, rfl⟩⟩; refine ⟨_, rfl, ?_⟩) | ((with_reducible refine gate_callee (f := 10) rfl ?_); refine goesL_ (some 13) rfl rfl Try.func10 (by kernel_rfl) rfl #[.slice A0 l0.length c0] rfl sm_ ?_; (with_reducible refine (spec_DrawRowTrim.calls k _ _ l0 t1177 t1178 t1179 t1182 t1183 _ ?side1 ?side2 A4.out).mono ?_); (case side1 => repeat (first | exact HR0.out | (with_reducible refine Kd.C_alloc ?_ _) | (with_reducible refine Kd.C_drewN ?_ _) | (with_reducible refine Kd.C_drew ?_))); (case side2 => exact HC0.out); rintro e w99 ⟨v1180, rfl, ho0, hb⟩; refine ⟨_, rfl, ?_⟩; have HO1181 := Aside0.mk (Kd.R_lower ho0 (below_size (hb_ HB.out))); replace HB := ch_ HB hb; (try clear hb); (try clear hb2); (try clear hk); (try clear hi); (try clear ho0)) | ((with_reducible refine gate_dst (N := 3) rfl ?_); (try (refine gate_guard (by rfl) ?_; dsimp only)); refine box_event ?hg (N := 3) ?hd (cs := #[.int .i64 0, .int .i64 0, .slice none 0 0]) (t := 26) ?hr ?_; (case hd => rfl); (case hg => rfl); (case hr => first | (go_simp; done) | (go_simp; rfl)); intro gb1184 hg w100 hbox hb; have BK1184 := Aside0.mk (hbox); have GW1184 := cz_ HB hg; have GE1184 := cz_ HB hg; replace HO1181 := cr_ HO1181 hb; replace HB := ch_ HB hb; clear hb hbox hg; have hcz101_0 : w100.cell? ⟨gb1184, 0, none⟩ = some (.int .i64 0) := bc_ BK1184 0; have hcz101_1 : w100.cell? ⟨gb1184, 1, none⟩ = some (.int .i64 0) := bc_ BK1184 1; have hcz101_2 : w100.cell? ⟨gb1184, 2, none⟩ = some (.slice none 0 0) := bc_ BK1184 2; have hfz101_0 := blk_frozen BK1184.out 0; have hfz101_1 := blk_frozen BK1184.out 1; have hfz101_2 := blk_frozen BK1184.out 2; obtain ⟨Ao102, co102, eo102⟩ := Kd.R_slice HO1181.out; subst eo102) | ((with_reducible refine gate_callee (f := 11) rfl ?_); refine goesL_ (some 20) rfl rfl Try.func11 (by kernel_rfl) rfl #[.agg #[.int .i64 t1177, .int .i64 t1178, .slice Ao102 t1179.length co102], .int .i64 t1182, .int .i64 t1183] rfl sm_ ?_; (with_reducible refine (impl_RowTrim.calls k t1177 t1178 _ _ t1179 t1182 t1183 t1185 t1186 t1187 _ ?side1 ?side2 A5.out).mono ?_); (case side1 => refine (Kd.R_reads' (e := 33) (base := w.heap.size) (ok := fun k_ => True) (n := t1179.length) (c := co102) ?_).2.2; exact (rk_ HO1181.out BK1184.out)); (case side2 => exact (Kd.R_reads' HO1181.out).2.1); rintro e w103 ⟨v1188, rfl, ho0, hb⟩; refine ⟨_, rfl, ?_⟩; have HO1189 := Aside0.mk (Kd.R_lower (Kd.R_new' ho0 (Kd.R_lt (rk_ HO1181.out BK1184.out))) (below_size (hb_ HB.out))); replace HO1181 := Aside0.mk (Kd.R_elder' (rk_ HO1181.out BK1184.out) (Kd.R_base ho0) hb); replace BK1184 := Aside0.mk (blk_below (g := gb1184) (o := .cells #[.int .i64 t1177, .int .i64 t1178, .slice Ao102 t1179.length co102] 26 (0, 0)) (bp_ BK1184.out) hb); replace HB := ch_ HB hb; (try clear hb); (try clear hb2); (try clear hk); (try clear hi); (try clear ho0)) | ((with_reducible refine gate_dst (N := 6) rfl ?_); (try (refine gate_guard (by rfl) ?_; dsimp only)); refine box_event ?hg (N := 6) ?hd (cs := #[.int .i64 0, .int .i64 0, .slice none 0 0]) (t := 26) ?hr ?_; (case hd => rfl); (case hg => rfl); (case hr => first | (go_simp; done) | (go_simp; rfl)); intro gb1190 hg w104 hbox hb; have BK1190 := Aside0.mk (hbox); have GW1190 := cz_ HB hg; have GE1190 := cz_ HB hg; have NB1184_1190 := cn_ BK1184 hg; have NB1190_1184 := cm_ BK1184 hg; replace HO1181 := cr_ HO1181 hb; replace HO1189 := cr_ HO1189 hb; replace BK1184 := cb_ BK1184 hb; replace HB := ch_ HB hb; clear hb hbox hg; have hnb105 := NB1190_1184.out; have hnc105 := NB1184_1190.out; have hcz106_0 : w104.cell? ⟨gb1190, 0, none⟩ = some (.int .i64 0) := bc_ BK1190 0; have hcz106_1 : w104.cell? ⟨gb1190, 1, none⟩ = some (.int .i64 0) := bc_ BK1190 1; have hcz106_2 : w104.cell? ⟨gb1190, 2, none⟩ = some (.slice none 0 0) := bc_ BK1190 2; have hfz106_0 := blk_frozen BK1190.out 0; have hfz106_1 := blk_frozen BK1190.out 1; have hfz106_2 := blk_frozen BK1190.out 2; obtain ⟨Ao107, co107, eo107⟩ := Kd.R_slice HO1189.out; subst eo107))
   obtain ⟨w108, qe_⟩ : ∃ x_, x_ = (((w104.setCell ⟨gb1190, 0, none⟩ (.int .i64 t1185)).setCell ⟨gb1190, 1, none⟩ (.int .i64 t1186)).setCell ⟨gb1190, 2, none⟩ (.slice Ao107 t1187.length co107)) := ⟨_, rfl⟩
   rw [← qe_]
   replace HO1181 : Aside0 (Kd.R k_Item 33 w108 w.heap.size (fun k_ => some k_ ≠ (.slice Ao107 t1187.length co107 : Value).ownBlock) (.slice Ao102 t1179.length co102) t1179) := ⟨by rw [qe_]; exact by (with_reducible repeat (first | apply Kd.R_alloc | apply Kd.R_drewN | apply Kd.R_drew)); exact Kd.R_mono (Kd.R_far (p := ⟨gb1190, 2, none⟩) (Kd.R_far (p := ⟨gb1190, 1, none⟩) (Kd.R_far (p := ⟨gb1190, 0, none⟩) (Kd.R_types HO1181.out BK1190.out (by decide)) (fun _ hk => hk.2) (.int .i64 t1185)) (fun _ hk => hk.2) (.int .i64 t1186)) (fun _ hk => hk.2) (.slice Ao107 t1187.length co107)) (fun _ hk => hk.1.2)⟩
   replace HO1189 : Aside0 (Kd.R k_Item 33 w108 w.heap.size (fun k_ => some k_ ≠ (.slice Ao102 t1179.length co102 : Value).ownBlock) (.slice Ao107 t1187.length co107) t1187) := ⟨by rw [qe_]; exact by (with_reducible repeat (first | apply Kd.R_alloc | apply Kd.R_drewN | apply Kd.R_drew)); exact Kd.R_mono (Kd.R_far (p := ⟨gb1190, 2, none⟩) (Kd.R_far (p := ⟨gb1190, 1, none⟩) (Kd.R_far (p := ⟨gb1190, 0, none⟩) (Kd.R_types HO1189.out BK1190.out (by decide)) (fun _ hk => hk.2) (.int .i64 t1185)) (fun _ hk => hk.2) (.int .i64 t1186)) (fun _ hk => hk.2) (.slice Ao107 t1187.length co107)) (fun _ hk => hk.1.2)⟩
   replace BK1184 := fl_ qe_ BK1184
   replace BK1190 : Aside0 (w108.heap[gb1190]? = some (.cells #[.int .i64 t1185, .int .i64 t1186, .slice Ao107 t1187.length co107] 26 (0, 0))) := ⟨by rw [qe_]; exact bp_ BK1190.out⟩
   replace HB : Aside0 (Below w.heap.size w w108) := ⟨by rw [qe_]; exact hb_ HB.out⟩
   clear qe_
   replace HO1181 := Aside0.mk (Kd.R_drew HO1181.out)
   replace HO1189 := Aside0.mk (Kd.R_drew HO1189.out)
   replace BK1184 := Aside0.mk (blk_drew BK1184.out)
   replace BK1190 := Aside0.mk (blk_drew BK1190.out)
   replace HB := Aside0.mk (below_drew1 HB.out)
   refine start_ (n := 7) (S := fun w' => w'.cell? ⟨gb1190, 0, none⟩ = some (.int .i64 t1185) ∧ w'.cell? ⟨gb1190, 1, none⟩ = some (.int .i64 t1186) ∧ w'.cell? ⟨gb1190, 2, none⟩ = some (.slice Ao107 t1187.length co107) ∧ w'.cell? ⟨gb1184, 0, none⟩ = some (.int .i64 t1177) ∧ w'.cell? ⟨gb1184, 1, none⟩ = some (.int .i64 t1178) ∧ w'.cell? ⟨gb1184, 2, none⟩ = some (.slice Ao102 t1179.length co102)) (ds := []) #[false, false, false, false, false, false, false] (by kernel_rfl) rfl rfl ⟨bc_ BK1190 0, bc_ BK1190 1, bc_ BK1190 2, bc_ BK1184 0, bc_ BK1184 1, bc_ BK1184 2⟩ (fun hHeld => ?_)
   generalize w108.drew = w109 at HO1181 HO1189 BK1184 BK1190 HB hHeld ⊢
   refine pure_ (i := 2) (N := some 23) (v := ?_) (a' := ?_) #[false, false, true, false, false, false, false] rfl rfl (by kernel_rfl) (fun _ _ _ h => h) (Or.inl ⟨by rfl, ?_⟩) ?_ ?_; rotate_left; (focus intro w'; go_simp; with_reducible rfl); rotate_left; (focus simp only [Act.put, List.setIfInBounds_toArray, List.set_cons_zero, List.set_cons_succ, i64_w, i32_w]; rfl)
   refine pure_ (i := 3) (N := some 24) (v := ?_) (a' := ?_) #[false, false, true, true, false, false, false] rfl rfl (by kernel_rfl) (fun _ _ _ h => h) (Or.inl ⟨by rfl, ?_⟩) ?_ ?_; rotate_left; (focus intro w'; go_simp; with_reducible rfl); rotate_left; (focus simp only [Act.put, List.setIfInBounds_toArray, List.set_cons_zero, List.set_cons_succ, i64_w, i32_w]; rfl)
   refine take_ (i := 0) (N := some 21) (v := ?_) (a' := ?_) #[true, false, true, true, false, false, false] rfl rfl (by kernel_rfl) (fun _ _ _ h => h) (Or.inl ⟨by rfl, ?_⟩) hHeld ?_ ?_
   rotate_left
   ·
    rintro w' ⟨s0, s1, s2, s3, s4, s5⟩
    go_simp
    with_reducible rfl
   rotate_left; (focus simp only [Act.put, List.setIfInBounds_toArray, List.set_cons_zero, List.set_cons_succ, i64_w, i32_w]; rfl)
   refine take_ (i := 1) (N := some 22) (v := ?_) (a' := ?_) #[true, true, true, true, false, false, false] rfl rfl (by kernel_rfl) (fun _ _ _ h => h) (Or.inl ⟨by rfl, ?_⟩) hHeld ?_ ?_
   rotate_left
   ·
    rintro w' ⟨s0, s1, s2, s3, s4, s5⟩
    go_simp
    with_reducible rfl
   rotate_left; (focus simp only [Act.put, List.setIfInBounds_toArray, List.set_cons_zero, List.set_cons_succ, i64_w, i32_w]; rfl)
   refine one_ (i := 4) (N := some 25) #[true, true, true, true, true, false, false] rfl rfl (by kernel_rfl) (by decide) (fun K hK => ?_)
   refine goes_ Try.func13 (by kernel_rfl) rfl #[.agg #[.int .i64 t1177, .int .i64 t1178, .slice Ao102 t1179.length co102], .int .i64 t1182, .int .i64 t1183] (by rfl) rfl rfl sm_ ?_
   with_reducible refine (spec_RowTrim.calls k t1177 t1178 _ _ t1179 t1182 t1183 t1191 t1192 t1193 _ ?side1 ?side2 A6.out).mono ?_
   (case side1 => repeat (first | exact (Kd.R_reads' HO1181.out).2.2 | (with_reducible refine Kd.C_alloc ?_ _) | (with_reducible refine Kd.C_drewN ?_ _) | (with_reducible refine Kd.C_drew ?_)))
   (case side2 => exact (Kd.R_reads' HO1181.out).2.1)
   rintro e w110 ⟨v1194, rfl, ho0, hb⟩
   refine ⟨_, rfl, ?_⟩
   have HO1195 := Aside0.mk (Kd.R_lower (Kd.R_new' (Kd.R_new' ho0 (Kd.R_lt (rq_ HO1181.out))) (Kd.R_lt (rq_ HO1189.out))) (below_size (hb_ HB.out)))
   replace HO1181 := Aside0.mk (Kd.R_elder' (rq_ HO1181.out) (Kd.R_base ho0) hb)
   replace HO1189 := Aside0.mk (Kd.R_elder' (rq_ HO1189.out) (Kd.R_base ho0) hb)
   replace BK1184 := cb_ BK1184 hb
   replace BK1190 := cb_ BK1190 hb
   replace HB := ch_ HB hb
   (try clear hb); (try clear hb2); (try clear hk); (try clear hi); (try clear ho0)
   obtain ⟨Ao111, co111, eo111⟩ := Kd.R_slice HO1195.out
   (first | subst eo111 | (injection eo111 with f1_ f2_ f3_; have f4_ := f1_.symm; have f5_ := f3_.symm; clear f1_ f2_ f3_; subst f4_; subst f5_))
   refine hK.out _ _ ⟨bc_ BK1190 0, bc_ BK1190 1, bc_ BK1190 2, bc_ BK1184 0, bc_ BK1184 1, bc_ BK1184 2⟩ (fun hHeld => ?_)
   clear hK K
   refine nm_ ?_
   refine one_ (i := 5) (N := some 26) #[true, true, true, true, true, true, false] rfl rfl (by kernel_rfl) (by decide) (fun K hK => ?_)
   refine goes_ Try.func12 (by kernel_rfl) rfl #[.agg #[.int .i64 t1185, .int .i64 t1186, .slice Ao107 t1187.length co107], .agg #[.int .i64 t1191, .int .i64 t1192, .slice Ao111 t1193.length co111]] (by rfl) rfl rfl sm_ ?_
   with_reducible refine (laws_sameRow.calls k t1185 t1186 _ _ t1187 t1191 t1192 _ _ t1193 false _ ?side1 ?side2 ?side3 ?side4 A7.out).mono ?_
   (case side1 => repeat (first | exact (Kd.R_reads' HO1189.out).2.2 | (with_reducible refine Kd.C_alloc ?_ _) | (with_reducible refine Kd.C_drewN ?_ _) | (with_reducible refine Kd.C_drew ?_)))
   (case side2 => exact (Kd.R_reads' HO1189.out).2.1)
   (case side3 => repeat (first | exact (Kd.R_reads' HO1195.out).2.2 | (with_reducible refine Kd.C_alloc ?_ _) | (with_reducible refine Kd.C_drewN ?_ _) | (with_reducible refine Kd.C_drew ?_)))
   (case side4 => exact (Kd.R_reads' HO1195.out).2.1)
   rintro e w112 ⟨rfl, hb⟩
   refine ⟨_, rfl, ?_⟩
   replace HO1181 := cr_ HO1181 hb
   replace HO1189 := cr_ HO1189 hb
   replace HO1195 := cr_ HO1195 hb
   replace BK1184 := cb_ BK1184 hb
   replace BK1190 := cb_ BK1190 hb
   replace HB := ch_ HB hb
   (try clear hb)
   refine hK.out _ _ ⟨bc_ BK1190 0, bc_ BK1190 1, bc_ BK1190 2, bc_ BK1184 0, bc_ BK1184 1, bc_ BK1184 2⟩ (fun hHeld => ?_)
   clear hK K
   refine nm_ ?_
   refine pure_ (i := 6) (N := some 27) (v := ?_) (a' := ?_) #[true, true, true, true, true, true, true] rfl rfl (by kernel_rfl) (fun _ _ _ h => h) (Or.inl ⟨by rfl, ?_⟩) ?_ ?_; rotate_left; (focus intro w'; go_simp; with_reducible rfl); rotate_left; (focus simp only [Act.put, List.setIfInBounds_toArray, List.set_cons_zero, List.set_cons_succ, i64_w, i32_w]; rfl)
   refine done_ (by kernel_rfl) ?_
   try go_wp2
   go_ret
   exact ⟨er_, hb_ HB.out⟩

/-- THE ONE PURE STATEMENT of laws_FnTrimmed: yours. -/
def laws_FnTrimmed.Pure : Prop := ∀ (l0 : List Int), l0.length ≤ maxLen → l0.length * 1 ≤ 140737488351232 → (∀ x ∈ l0, (Lit.int .u8 x).wf = true) → ∃ k, laws_FnTrimmed.f k l0 = some true
theorem laws_FnTrimmed.walk (P : laws_FnTrimmed.Pure) (a0 : Option Addr) (len0 cap0 : Nat) (z0 : List Int) (w : World) (w0 : (a0 = none ∧ len0 = 0 ∧ cap0 = 0 ∧ z0 = []) ∨ ∃ x, a0 = some x ∧ len0 ≤ cap0 ∧ cap0 ≤ maxLen ∧ z0.length = cap0 ∧ (∀ i, i < z0.length → w.cell? (x.add i) = some (.int .u8 (z0.getD i 0))) ∧ ∀ n ∈ z0, (Lit.int .u8 n).wf = true) (y0 : len0 * 1 ≤ 140737488351232) :
 Calls Try.prog 3 #[.slice a0 len0 cap0] w fun e w' => e = .returned (.bool true) ∧ Below w.heap.size w w' := by
 obtain ⟨l0, rfl, hr0, hm0, hw0, hc0⟩ := ReadsInt.ofRowC w0
 obtain ⟨k, h⟩ := P l0 hm0 y0 hw0
 refine (laws_FnTrimmed.calls k _ _ l0 true w (Kd.C_of_reads (d := (0 : Int)) (h1 := fun _ => rfl) hr0) hc0 h).mono ?_
 rintro e w' ⟨rfl, hd⟩
 exact ⟨rfl, hd⟩
end
end Go.Proofs.Ythmjhhkheohgfaa.Q
