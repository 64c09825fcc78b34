/- Made by a program of ours out of the print of the loaded functions: for each of some functions a plain function, and the walk that shows that a call comes to what it says. No condition but those of each theorem. -/
import Derived.Test.YtiknkolclcdajaaZFnRows0
import Derived.Test.YtiknkolclcdajaaZFnRowsa
import Derived.Test.YtiknkolclcdajaaZFnRowsc
import Derived.Test.YtiknkolclcdajaaZFnRowsd
import Derived.Test.YtiknkolclcdajaaZFnRowsf
namespace Go.Proofs.Ytiknkolclcdajaa.Q
open Go.RowKit Go.Proofs.YtiknkolclcdajaaW.PrintWords Go.Proofs.YtiknkolclcdajaaW.PrintLast Go.Proofs.YtiknkolclcdajaaW.PrintMore
attribute [local go_sem] max2_int min2_int max_two min_two max_three min_three max_four min_four   -- for this text's walks alone
set_option linter.unusedVariables false
set_option linter.unusedSimpArgs false
theorem qg0_ {P : Prop} (h : P := by repeat (first | (with_reducible first | exact HB.out | apply below_alloc | apply pw_below_drewN | apply below_drew1 | refine below_set ?_ GE2280.out | refine below_set ?_ GE2281.out) | exact HB.out)) : P := h
theorem qg1_ {P : Prop} (h : P := by repeat (first | (with_reducible first | exact HB.out | apply below_alloc | apply pw_below_drewN | apply below_drew1 | refine below_set ?_ GE2280.out) | exact HB.out)) : P := h
theorem qg2_ {P : Prop} (h : P := by repeat (first | (with_reducible first | exact HB.out | apply below_alloc | apply pw_below_drewN | apply below_drew1) | exact HB.out)) : P := h
theorem qg3_ {P : Prop} (h : P := by first | rfl | (simp [errW_none, errW_some] <;> rfl) | (simp [*, errW_none, errW_some] <;> rfl)) : P := h
theorem qg4_ {P : Prop} (h : P := by first | rfl | (simp; done) | (simp [*]; done)) : P := h
theorem qgh0_ {P : Prop} (h : P := by repeat' first | (with_reducible exact ih0 _ _ _ _ _ _ _) | (with_reducible exact ih1 _ _ _ _ _ _ _) | (with_reducible exact LeO.refl _) | (with_reducible exact LeO.none _) | (with_reducible refine LeO.ite ?_ ?_) | (with_reducible refine LeO.bind ?_ (fun _ => ?_)) | exact ih0 _ _ _ _ _ _ _ | exact ih1 _ _ _ _ _ _ _ | exact LeO.none _ | refine LeO.ite ?_ ?_ | refine LeO.bind ?_ (fun _ => ?_)) : P := h
theorem qgh1_ {P : Prop} (h : P := by repeat' first | (with_reducible exact ih0 _) | (with_reducible exact ih1 _ _ _ _ _ _ _ _ _ _ _) | (with_reducible exact ih2 _ _ _ _ _ _ _ _ _ _) | (with_reducible exact ih3 _ _ _ _ _ _ _ _ _) | (with_reducible exact ih4 _ _ _ _ _ _ _) | (with_reducible exact ih5 _ _ _ _ _ _) | (with_reducible exact ih6 _ _ _) | (with_reducible exact ih7 _ _ _ _ _ _ _) | (with_reducible exact ih8 _ _ _ _ _ _ _ _) | (with_reducible exact ih9 _ _ _ _ _ _ _) | (with_reducible exact ih10 _ _ _ _ _ _ _ _) | (with_reducible exact impl_Latest.mono _ _ _ _ _) | (with_reducible exact impl_RowGet.mono _ _ _ _ _) | (with_reducible exact impl_RowOk.mono _ _ _ _) | (with_reducible exact impl_RowPut.mono _ _ _ _ _ _ _ _) | (with_reducible exact laws_sameRow.mono _ _ _ _ _ _ _) | (with_reducible exact spec_DrawLatest.mono _ _) | (with_reducible exact spec_DrawRowGet.mono _ _) | (with_reducible exact spec_DrawRowPut.mono _ _) | (with_reducible exact spec_Latest.mono _ _ _ _ _) | (with_reducible exact spec_RowGet.mono _ _ _ _ _) | (with_reducible exact spec_RowOk.mono _ _ _ _) | (with_reducible exact spec_RowPut.mono _ _ _ _ _ _ _ _) | (with_reducible exact LeO.refl _) | (with_reducible exact LeO.none _) | (with_reducible refine LeO.ite ?_ ?_) | (with_reducible refine LeO.bind ?_ (fun _ => ?_)) | exact ih0 _ | exact ih1 _ _ _ _ _ _ _ _ _ _ _ | exact ih2 _ _ _ _ _ _ _ _ _ _ | exact ih3 _ _ _ _ _ _ _ _ _ | exact ih4 _ _ _ _ _ _ _ | exact ih5 _ _ _ _ _ _ | exact ih6 _ _ _ | exact ih7 _ _ _ _ _ _ _ | exact ih8 _ _ _ _ _ _ _ _ | exact ih9 _ _ _ _ _ _ _ | exact ih10 _ _ _ _ _ _ _ _ | exact impl_Latest.mono _ _ _ _ _ | exact impl_RowGet.mono _ _ _ _ _ | exact impl_RowOk.mono _ _ _ _ | exact impl_RowPut.mono _ _ _ _ _ _ _ _ | exact laws_sameRow.mono _ _ _ _ _ _ _ | exact spec_DrawLatest.mono _ _ | exact spec_DrawRowGet.mono _ _ | exact spec_DrawRowPut.mono _ _ | exact spec_Latest.mono _ _ _ _ _ | exact spec_RowGet.mono _ _ _ _ _ | exact spec_RowOk.mono _ _ _ _ | exact spec_RowPut.mono _ _ _ _ _ _ _ _ | exact LeO.none _ | refine LeO.ite ?_ ?_ | refine LeO.bind ?_ (fun _ => ?_)) : P := h

section
attribute [local go_sem high] eqA_Item
/-! ### laws_sameRow: function 43 -/
mutual
def laws_sameRow.j0 : Nat → Bool → Int → Int → List (S_Item) → Int → Int → List (S_Item) → Option (Bool)
  | 0, _, _, _, _, _, _, _ => none
  | k + 1, x26, x2281000, x2281001, x2281002, x2282000, x2282001, x2282002 => if x26 = true then (some false) else (laws_sameRow.l0 k 0 x2281000 x2281001 x2281002 x2282000 x2282001 x2282002)
def laws_sameRow.l0 : Nat → Int → Int → Int → List (S_Item) → Int → Int → List (S_Item) → Option (Bool)
  | 0, _, _, _, _, _, _, _ => none
  | k + 1, x5, x2281000, x2281001, x2281002, x2282000, x2282001, x2282002 => if x5 < (x2281002.length : Int) then (if 0 ≤ x5 then (if x5 < (x2282002.length : Int) then (if (!(((rd_Item x2281002 x5).f0) == ((rd_Item x2282002 x5).f0)) || (!((((rd_Item x2281002 x5).f1).toList) == (((rd_Item x2282002 x5).f1).toList)) || (!((((rd_Item x2281002 x5).f2).toList) == (((rd_Item x2282002 x5).f2).toList)) || (!(((rd_Item x2281002 x5).f3) == ((rd_Item x2282002 x5).f3)) || (!(((rd_Item x2281002 x5).f4) == ((rd_Item x2282002 x5).f4))))))) = true then (some false) else (laws_sameRow.l0 k (wrap64 (x5 + 1)) x2281000 x2281001 x2281002 x2282000 x2282001 x2282002)) else (none)) else (none)) else (some true)
end
def laws_sameRow.f (k : Nat) (a0_0 : Int) (a0_1 : Int) (l0_2 : List (S_Item)) (a1_0 : Int) (a1_1 : Int) (l1_2 : List (S_Item)) : Option (Bool) := if a0_0 = a1_0 then (if a0_1 = a1_1 then (laws_sameRow.j0 k ((l0_2.length : Int) != (l1_2.length : Int)) a0_0 a0_1 l0_2 a1_0 a1_1 l1_2) else (laws_sameRow.j0 k true a0_0 a0_1 l0_2 a1_0 a1_1 l1_2)) else (laws_sameRow.j0 k true a0_0 a0_1 l0_2 a1_0 a1_1 l1_2)
theorem laws_sameRow.mono_l : ∀ k, (∀ y0 y1 y2 y3 y4 y5 y6, LeO (laws_sameRow.j0 k y0 y1 y2 y3 y4 y5 y6) (laws_sameRow.j0 (k + 1) y0 y1 y2 y3 y4 y5 y6)) ∧ (∀ y0 y1 y2 y3 y4 y5 y6, LeO (laws_sameRow.l0 k y0 y1 y2 y3 y4 y5 y6) (laws_sameRow.l0 (k + 1) y0 y1 y2 y3 y4 y5 y6))
  | 0 => ⟨fun _ _ _ _ _ _ _ r h => by simp [laws_sameRow.j0] at h, fun _ _ _ _ _ _ _ r h => by simp [laws_sameRow.l0] at h⟩
  | k + 1 => by
    obtain ⟨ih0, ih1⟩ := laws_sameRow.mono_l k
    refine ⟨?_, ?_⟩
    · intro y0 y1 y2 y3 y4 y5 y6
      unfold laws_sameRow.j0
      exact qgh0_
    · intro y0 y1 y2 y3 y4 y5 y6
      unfold laws_sameRow.l0
      exact qgh0_
theorem laws_sameRow.mono : ∀ a0 a1 a2 a3 a4 a5 k, LeO (laws_sameRow.f k a0 a1 a2 a3 a4 a5) (laws_sameRow.f (k + 1) a0 a1 a2 a3 a4 a5) := by
  intro a0 a1 a2 a3 a4 a5 k
  obtain ⟨ih0, ih1⟩ := laws_sameRow.mono_l k
  unfold laws_sameRow.f
  exact qgh0_
set_option maxHeartbeats 8000000 in
set_option maxRecDepth 100000 in
theorem laws_sameRow.calls (k : Nat) (a0_0 : Int) (a0_1 : Int) (A0_2 : Option Addr) (c0_2 : Nat) (l0_2 : List (S_Item)) (a1_0 : Int) (a1_1 : Int) (A1_2 : Option Addr) (c1_2 : Nat) (l1_2 : List (S_Item)) (r : Bool) (w : World) (hr0_2 : Kd.C k_Item w A0_2 l0_2.length l0_2) (hc0_2 : l0_2.length ≤ c0_2) (hr1_2 : Kd.C k_Item w A1_2 l1_2.length l1_2) (hc1_2 : l1_2.length ≤ c1_2) (h : laws_sameRow.f k a0_0 a0_1 l0_2 a1_0 a1_1 l1_2 = some r) :
    Calls Try.prog 43 #[.agg #[.int .i64 a0_0, .int .i64 a0_1, .slice A0_2 l0_2.length c0_2], .agg #[.int .i64 a1_0, .int .i64 a1_1, .slice A1_2 l1_2.length c1_2]] w fun e w' => e = .returned (.bool r) ∧ Below w.heap.size w w' := by
  have hu57 := Try.underlying57
  have hu69 := Try.underlying69
  have HR0_2 := Aside0.mk hr0_2
  have HC0_2 := Aside0.mk hc0_2
  clear hr0_2 hc0_2
  have HR1_2 := Aside0.mk hr1_2
  have HC1_2 := Aside0.mk hc1_2
  clear hr1_2 hc1_2
  have HB := Aside0.mk (Below.refl w.heap.size w)
  have H : (if a0_0 = a1_0 then (if a0_1 = a1_1 then (laws_sameRow.j0 k ((l0_2.length : Int) != (l1_2.length : Int)) a0_0 a0_1 l0_2 a1_0 a1_1 l1_2) else (laws_sameRow.j0 k true a0_0 a0_1 l0_2 a1_0 a1_1 l1_2)) else (laws_sameRow.j0 k true a0_0 a0_1 l0_2 a1_0 a1_1 l1_2)) = some r := h
  clear h
  have HC3 := Aside0.mk H
  clear H
  go_enter Try.func43, Try.ntmps43
  go_upto_region 1 with (first | (go_quiet (fail)) | ((with_reducible refine gate_dst (N := 2) rfl ?_); (try (refine gate_guard (by rfl) ?_; dsimp only)); refine box_event ?hg (N := 2) ?hd (cs := #[.int .i64 a0_0, .int .i64 a0_1, .slice A0_2 l0_2.length c0_2]) (t := 57) ?hr ?_; (case hd => rfl); (case hg => rfl); (case hr => first | (go_simp; done) | (go_simp; rfl)); intro gb2280 hg w4 hbox hb; have BK2280 := Aside0.mk (hbox); have GW2280 := Aside0.mk ((by rw [hg]; exact (below_size (qg2_)) : w.heap.size ≤ gb2280)); have GE2280 := Aside0.mk ((by rw [hg]; exact (below_size (qg2_)) : w.heap.size ≤ gb2280)); replace HB := Aside0.mk (below_step (qg2_) hb); clear hb hbox hg) | ((with_reducible refine gate_dst (N := 3) rfl ?_); (try (refine gate_guard (by rfl) ?_; dsimp only)); refine box_event ?hg (N := 3) ?hd (cs := #[.int .i64 a1_0, .int .i64 a1_1, .slice A1_2 l1_2.length c1_2]) (t := 57) ?hr ?_; (case hd => rfl); (case hg => rfl); (case hr => first | (go_simp; done) | (go_simp; rfl)); intro gb2281 hg w5 hbox hb; have BK2281 := Aside0.mk (hbox); have GW2281 := Aside0.mk ((by rw [hg]; exact (below_size (qg1_)) : w.heap.size ≤ gb2281)); have GE2281 := Aside0.mk ((by rw [hg]; exact (below_size (qg1_)) : w.heap.size ≤ gb2281)); have NB2280_2281 := Aside0.mk ((by rw [hg]; exact Nat.ne_of_lt (blk_lt (g := gb2280) (o := .cells #[.int .i64 a0_0, .int .i64 a0_1, .slice A0_2 l0_2.length c0_2] 57 (0, 0)) (bq_ BK2280.out)) : gb2280 ≠ gb2281)); have NB2281_2280 := Aside0.mk ((by rw [hg]; exact Nat.ne_of_gt (blk_lt (g := gb2280) (o := .cells #[.int .i64 a0_0, .int .i64 a0_1, .slice A0_2 l0_2.length c0_2] 57 (0, 0)) (bq_ BK2280.out)) : gb2281 ≠ gb2280)); replace BK2280 := Aside0.mk (blk_below (g := gb2280) (o := .cells #[.int .i64 a0_0, .int .i64 a0_1, .slice A0_2 l0_2.length c0_2] 57 (0, 0)) (bq_ BK2280.out) hb); replace HB := Aside0.mk (below_step (qg1_) hb); clear hb hbox hg))
  (try simp only [Act.put, List.setIfInBounds_toArray, List.set_cons_zero, List.set_cons_succ])
  go_cut [26] (fun v26 wc => ∃ (kq : Nat) (x26_2 : Bool), v26 = .bool x26_2 ∧ Aside0 (laws_sameRow.j0 kq x26_2 a0_0 a0_1 l0_2 a1_0 a1_1 l1_2 = some r) ∧ Aside0 (kq ≤ k) ∧ Aside0 (wc.heap[gb2280]? = some (.cells #[.int .i64 a0_0, .int .i64 a0_1, (.slice A0_2 l0_2.length c0_2)] 57 (0, 0))) ∧ Aside0 (wc.heap[gb2281]? = some (.cells #[.int .i64 a1_0, .int .i64 a1_1, (.slice A1_2 l1_2.length c1_2)] 57 (0, 0))) ∧ Aside0 (Below w.heap.size w wc))
  case first =>
    have H := HC3.out
    clear HC3
    by_cases c6 : a0_0 = a1_0
    · rw [if_pos c6] at H
      have c6b0 : (a0_0 == a1_0) = true := beq_iff_eq.mpr c6
      have c6b1 : (a0_0 != a1_0) = false := bne_eq_false_iff_eq.mpr c6
      clear c6
      (first | rw [c6b0] | (simp only [i64_w, i32_w]; rw [c6b0]) | rw [c6b4] | rw [c6b3] | skip)
      by_cases c7 : a0_1 = a1_1
      · rw [if_pos c7] at H
        have c7b0 : (a0_1 == a1_1) = true := beq_iff_eq.mpr c7
        have c7b1 : (a0_1 != a1_1) = false := bne_eq_false_iff_eq.mpr c7
        clear c7
        have H' := Aside0.mk H
        clear H
        have hnb8 := NB2280_2281.out
        have hnc8 := NB2281_2280.out
        have hcz9_0 : w5.cell? ⟨gb2280, 0, none⟩ = some (.int .i64 a0_0) := bc_ BK2280 0
        have hcz9_1 : w5.cell? ⟨gb2280, 1, none⟩ = some (.int .i64 a0_1) := bc_ BK2280 1
        have hcz9_2 : w5.cell? ⟨gb2280, 2, none⟩ = some (.slice A0_2 l0_2.length c0_2) := bc_ BK2280 2
        have hfz9_0 := blk_frozen BK2280.out 0
        have hfz9_1 := blk_frozen BK2280.out 1
        have hfz9_2 := blk_frozen BK2280.out 2
        have hcz10_0 : w5.cell? ⟨gb2281, 0, none⟩ = some (.int .i64 a1_0) := bc_ BK2281 0
        have hcz10_1 : w5.cell? ⟨gb2281, 1, none⟩ = some (.int .i64 a1_1) := bc_ BK2281 1
        have hcz10_2 : w5.cell? ⟨gb2281, 2, none⟩ = some (.slice A1_2 l1_2.length c1_2) := bc_ BK2281 2
        have hfz10_0 := blk_frozen BK2281.out 0
        have hfz10_1 := blk_frozen BK2281.out 1
        have hfz10_2 := blk_frozen BK2281.out 2
        go_wp2
        repeat (go_quiet (fail); try go_wp2)
        go_meet
        case rel => exact ⟨_, (((l0_2.length : Int) != (l1_2.length : Int))), (qg4_), H', ⟨by first | omega | exact Nat.le_refl _⟩, ⟨bq_ BK2280.out⟩, ⟨bq_ BK2281.out⟩, ⟨qg0_⟩⟩
      · rw [if_neg c7] at H
        have c7b0 : (a0_1 == a1_1) = false := beq_eq_false_iff_ne.mpr c7
        have c7b1 : (a0_1 != a1_1) = true := bne_iff_ne.mpr c7
        have H' := Aside0.mk H
        clear H
        have hnb11 := NB2280_2281.out
        have hnc11 := NB2281_2280.out
        have hcz12_0 : w5.cell? ⟨gb2280, 0, none⟩ = some (.int .i64 a0_0) := bc_ BK2280 0
        have hcz12_1 : w5.cell? ⟨gb2280, 1, none⟩ = some (.int .i64 a0_1) := bc_ BK2280 1
        have hcz12_2 : w5.cell? ⟨gb2280, 2, none⟩ = some (.slice A0_2 l0_2.length c0_2) := bc_ BK2280 2
        have hfz12_0 := blk_frozen BK2280.out 0
        have hfz12_1 := blk_frozen BK2280.out 1
        have hfz12_2 := blk_frozen BK2280.out 2
        have hcz13_0 : w5.cell? ⟨gb2281, 0, none⟩ = some (.int .i64 a1_0) := bc_ BK2281 0
        have hcz13_1 : w5.cell? ⟨gb2281, 1, none⟩ = some (.int .i64 a1_1) := bc_ BK2281 1
        have hcz13_2 : w5.cell? ⟨gb2281, 2, none⟩ = some (.slice A1_2 l1_2.length c1_2) := bc_ BK2281 2
        have hfz13_0 := blk_frozen BK2281.out 0
        have hfz13_1 := blk_frozen BK2281.out 1
        have hfz13_2 := blk_frozen BK2281.out 2
        go_wp2
        repeat (go_quiet (fail); try go_wp2)
        go_meet
        case rel => exact ⟨_, (true), (qg4_), H', ⟨by first | omega | exact Nat.le_refl _⟩, ⟨bq_ BK2280.out⟩, ⟨bq_ BK2281.out⟩, ⟨qg0_⟩⟩
    · rw [if_neg c6] at H
      have c6b0 : (a0_0 == a1_0) = false := beq_eq_false_iff_ne.mpr c6
      have c6b1 : (a0_0 != a1_0) = true := bne_iff_ne.mpr c6
      (first | rw [c6b0] | (simp only [i64_w, i32_w]; rw [c6b0]) | rw [c6b4] | rw [c6b3] | skip)
      have H' := Aside0.mk H
      clear H
      have hnb14 := NB2280_2281.out
      have hnc14 := NB2281_2280.out
      have hcz15_0 : w5.cell? ⟨gb2280, 0, none⟩ = some (.int .i64 a0_0) := bc_ BK2280 0
      have hcz15_1 : w5.cell? ⟨gb2280, 1, none⟩ = some (.int .i64 a0_1) := bc_ BK2280 1
      have hcz15_2 : w5.cell? ⟨gb2280, 2, none⟩ = some (.slice A0_2 l0_2.length c0_2) := bc_ BK2280 2
      have hfz15_0 := blk_frozen BK2280.out 0
      have hfz15_1 := blk_frozen BK2280.out 1
      have hfz15_2 := blk_frozen BK2280.out 2
      have hcz16_0 : w5.cell? ⟨gb2281, 0, none⟩ = some (.int .i64 a1_0) := bc_ BK2281 0
      have hcz16_1 : w5.cell? ⟨gb2281, 1, none⟩ = some (.int .i64 a1_1) := bc_ BK2281 1
      have hcz16_2 : w5.cell? ⟨gb2281, 2, none⟩ = some (.slice A1_2 l1_2.length c1_2) := bc_ BK2281 2
      have hfz16_0 := blk_frozen BK2281.out 0
      have hfz16_1 := blk_frozen BK2281.out 1
      have hfz16_2 := blk_frozen BK2281.out 2
      go_wp2
      repeat (go_quiet (fail); try go_wp2)
      go_meet
      case rel => exact ⟨_, (true), (qg4_), H', ⟨by first | omega | exact Nat.le_refl _⟩, ⟨bq_ BK2280.out⟩, ⟨bq_ BK2281.out⟩, ⟨qg0_⟩⟩
  case rest =>
    clear HC3
    try clear c1
    try clear p2
    try clear c4
    try clear c6
    try clear c6b0
    try clear c6b1
    try clear c7
    try clear c7b0
    try clear c7b1
    try clear c8
    try clear c11
    try clear c14
    try clear hcz10_0
    try clear hcz10_1
    try clear hcz10_2
    try clear hcz12_0
    try clear hcz12_1
    try clear hcz12_2
    try clear hcz13_0
    try clear hcz13_1
    try clear hcz13_2
    try clear hcz15_0
    try clear hcz15_1
    try clear hcz15_2
    try clear hcz16_0
    try clear hcz16_1
    try clear hcz16_2
    try clear hcz9_0
    try clear hcz9_1
    try clear hcz9_2
    try clear hfz10_0
    try clear hfz10_1
    try clear hfz10_2
    try clear hfz12_0
    try clear hfz12_1
    try clear hfz12_2
    try clear hfz13_0
    try clear hfz13_1
    try clear hfz13_2
    try clear hfz15_0
    try clear hfz15_1
    try clear hfz15_2
    try clear hfz16_0
    try clear hfz16_1
    try clear hfz16_2
    try clear hfz9_0
    try clear hfz9_1
    try clear hfz9_2
    obtain ⟨kq, x26_2, rfl, HA, HJ2, BK2280, BK2281, HB⟩ := hcut
    cases kq with
    | zero => exact absurd HA.out (by simp [laws_sameRow.j0])
    | succ kj2 =>
      have H := HA.out
      clear HA
      simp only [laws_sameRow.j0] at H
      by_cases c17 : x26_2 = true
      · subst c17
        have H1 : (some false) = some r := by rw [if_pos rfl] at H; exact H
        clear H
        have H := H1
        clear H1
        obtain rfl := Option.some.inj H
        go_wp2
        repeat (go_quiet (fail); try go_wp2)
        go_ret
        exact ⟨qg3_, qg0_⟩
      · replace c17 := Bool.eq_false_iff.mpr c17
        subst c17
        have H1 : (laws_sameRow.l0 kj2 0 a0_0 a0_1 l0_2 a1_0 a1_1 l1_2) = some r := by rw [if_neg (show ¬ (false = true) by decide)] at H; exact H
        clear H
        have H := H1
        clear H1
        have H' := Aside0.mk H
        clear H
        go_wp2
        repeat (go_quiet (fail); try go_wp2)
        go_loopg [5] kj2 (fun kq v5 w' => ∃ (x5_2 : Int), v5 = .int .i64 x5_2 ∧ Aside0 (laws_sameRow.l0 kq x5_2 a0_0 a0_1 l0_2 a1_0 a1_1 l1_2 = some r) ∧ Aside0 (kq ≤ kj2) ∧ Aside0 (w'.heap[gb2280]? = some (.cells #[.int .i64 a0_0, .int .i64 a0_1, (.slice A0_2 l0_2.length c0_2)] 57 (0, 0))) ∧ Aside0 (w'.heap[gb2281]? = some (.cells #[.int .i64 a1_0, .int .i64 a1_1, (.slice A1_2 l1_2.length c1_2)] 57 (0, 0))) ∧ Aside0 (Below w.heap.size w w'))
        case atStart => exact ⟨(0), (qg4_), H', ⟨Nat.le_refl _⟩, ⟨bq_ BK2280.out⟩, ⟨bq_ BK2281.out⟩, ⟨qg0_⟩⟩
        case round =>
          clear H'
          try clear c1
          try clear p2
          try clear c4
          try clear c6
          try clear c6b0
          try clear c6b1
          try clear c7
          try clear c7b0
          try clear c7b1
          try clear c8
          try clear c11
          try clear c14
          try clear c17
          try clear hcz10_0
          try clear hcz10_1
          try clear hcz10_2
          try clear hcz12_0
          try clear hcz12_1
          try clear hcz12_2
          try clear hcz13_0
          try clear hcz13_1
          try clear hcz13_2
          try clear hcz15_0
          try clear hcz15_1
          try clear hcz15_2
          try clear hcz16_0
          try clear hcz16_1
          try clear hcz16_2
          try clear hcz9_0
          try clear hcz9_1
          try clear hcz9_2
          try clear hfz10_0
          try clear hfz10_1
          try clear hfz10_2
          try clear hfz12_0
          try clear hfz12_1
          try clear hfz12_2
          try clear hfz13_0
          try clear hfz13_1
          try clear hfz13_2
          try clear hfz15_0
          try clear hfz15_1
          try clear hfz15_2
          try clear hfz16_0
          try clear hfz16_1
          try clear hfz16_2
          try clear hfz9_0
          try clear hfz9_1
          try clear hfz9_2
          try clear p2
          obtain ⟨x5_2, rfl, HA, HK2, BK2280, BK2281, HB⟩ := hrel
          cases gk with
          | zero => exact absurd HA.out (by simp [laws_sameRow.l0])
          | succ k2 =>
            have H := HA.out
            clear HA
            simp only [laws_sameRow.l0] at H
            by_cases c18 : x5_2 < (l0_2.length : Int)
            · rw [if_pos c18] at H
              have c18b0 : decide (x5_2 < (l0_2.length : Int)) = true := decide_eq_true c18
              clear c18
              by_cases c19 : 0 ≤ x5_2
              · rw [if_pos c19] at H
                have c19b0 : decide (0 ≤ x5_2) = true := decide_eq_true c19
                clear c19
                by_cases c20 : x5_2 < (l1_2.length : Int)
                · rw [if_pos c20] at H
                  have c20b0 : decide (x5_2 < (l1_2.length : Int)) = true := decide_eq_true c20
                  clear c20
                  by_cases c21 : (!(((rd_Item l0_2 x5_2).f0) == ((rd_Item l1_2 x5_2).f0)) || (!((((rd_Item l0_2 x5_2).f1).toList) == (((rd_Item l1_2 x5_2).f1).toList)) || (!((((rd_Item l0_2 x5_2).f2).toList) == (((rd_Item l1_2 x5_2).f2).toList)) || (!(((rd_Item l0_2 x5_2).f3) == ((rd_Item l1_2 x5_2).f3)) || (!(((rd_Item l0_2 x5_2).f4) == ((rd_Item l1_2 x5_2).f4))))))) = true
                  · rw [if_pos c21] at H
                    have c21b0 : (!(((rd_Item l0_2 x5_2).f0) == ((rd_Item l1_2 x5_2).f0)) || (!((((rd_Item l0_2 x5_2).f1).toList) == (((rd_Item l1_2 x5_2).f1).toList)) || (!((((rd_Item l0_2 x5_2).f2).toList) == (((rd_Item l1_2 x5_2).f2).toList)) || (!(((rd_Item l0_2 x5_2).f3) == ((rd_Item l1_2 x5_2).f3)) || (!(((rd_Item l0_2 x5_2).f4) == ((rd_Item l1_2 x5_2).f4))))))) = true := c21
                    clear c21
                    obtain rfl := Option.some.inj H
                    have hnb22 := NB2280_2281.out
                    have hnc22 := NB2281_2280.out
                    have hcz23_0 : wr.cell? ⟨gb2280, 0, none⟩ = some (.int .i64 a0_0) := bc_ BK2280 0
                    have hcz23_1 : wr.cell? ⟨gb2280, 1, none⟩ = some (.int .i64 a0_1) := bc_ BK2280 1
                    have hcz23_2 : wr.cell? ⟨gb2280, 2, none⟩ = some (.slice A0_2 l0_2.length c0_2) := bc_ BK2280 2
                    have hfz23_0 := blk_frozen BK2280.out 0
                    have hfz23_1 := blk_frozen BK2280.out 1
                    have hfz23_2 := blk_frozen BK2280.out 2
                    have p2282 : 0 ≤ (x5_2 : Int) := of_decide_eq_true dt_
                    have q2282 : x5_2 < (l0_2.length : Int) := of_decide_eq_true dt_
                    obtain ⟨ad2282, e2282, hx2282_0, hx2282_1, hx2282_2, hx2282_3, hx2282_4⟩ := at_Item HR0_2.out x5_2 p2282 q2282
                    cases e2282
                    replace hx2282_0 := hc_ HB hx2282_0
                    replace hx2282_1 := hc_ HB hx2282_1
                    replace hx2282_2 := hc_ HB hx2282_2
                    replace hx2282_3 := hc_ HB hx2282_3
                    replace hx2282_4 := hc_ HB hx2282_4
                    replace p2282 := eq_true p2282
                    replace q2282 := eq_true q2282
                    have hcz24_0 : wr.cell? ⟨gb2281, 0, none⟩ = some (.int .i64 a1_0) := bc_ BK2281 0
                    have hcz24_1 : wr.cell? ⟨gb2281, 1, none⟩ = some (.int .i64 a1_1) := bc_ BK2281 1
                    have hcz24_2 : wr.cell? ⟨gb2281, 2, none⟩ = some (.slice A1_2 l1_2.length c1_2) := bc_ BK2281 2
                    have hfz24_0 := blk_frozen BK2281.out 0
                    have hfz24_1 := blk_frozen BK2281.out 1
                    have hfz24_2 := blk_frozen BK2281.out 2
                    have p2283 : 0 ≤ (x5_2 : Int) := of_decide_eq_true dt_
                    have q2283 : x5_2 < (l1_2.length : Int) := of_decide_eq_true dt_
                    obtain ⟨ad2283, e2283, hx2283_0, hx2283_1, hx2283_2, hx2283_3, hx2283_4⟩ := at_Item HR1_2.out x5_2 p2283 q2283
                    cases e2283
                    replace hx2283_0 := hc_ HB hx2283_0
                    replace hx2283_1 := hc_ HB hx2283_1
                    replace hx2283_2 := hc_ HB hx2283_2
                    replace hx2283_3 := hc_ HB hx2283_3
                    replace hx2283_4 := hc_ HB hx2283_4
                    replace p2283 := eq_true p2283
                    replace q2283 := eq_true q2283
                    go_wp2
                    repeat (go_quiet (fail); try go_wp2)
                    go_ret
                    exact ⟨qg3_, qg0_⟩
                  · rw [if_neg c21] at H
                    have c21b0 : (!(((rd_Item l0_2 x5_2).f0) == ((rd_Item l1_2 x5_2).f0)) || (!((((rd_Item l0_2 x5_2).f1).toList) == (((rd_Item l1_2 x5_2).f1).toList)) || (!((((rd_Item l0_2 x5_2).f2).toList) == (((rd_Item l1_2 x5_2).f2).toList)) || (!(((rd_Item l0_2 x5_2).f3) == ((rd_Item l1_2 x5_2).f3)) || (!(((rd_Item l0_2 x5_2).f4) == ((rd_Item l1_2 x5_2).f4))))))) = false := by simpa using c21
                    clear c21
                    have H' := Aside0.mk H
                    clear H
                    have hnb25 := NB2280_2281.out
                    have hnc25 := NB2281_2280.out
                    have hcz26_0 : wr.cell? ⟨gb2280, 0, none⟩ = some (.int .i64 a0_0) := bc_ BK2280 0
                    have hcz26_1 : wr.cell? ⟨gb2280, 1, none⟩ = some (.int .i64 a0_1) := bc_ BK2280 1
                    have hcz26_2 : wr.cell? ⟨gb2280, 2, none⟩ = some (.slice A0_2 l0_2.length c0_2) := bc_ BK2280 2
                    have hfz26_0 := blk_frozen BK2280.out 0
                    have hfz26_1 := blk_frozen BK2280.out 1
                    have hfz26_2 := blk_frozen BK2280.out 2
                    have p2282 : 0 ≤ (x5_2 : Int) := of_decide_eq_true dt_
                    have q2282 : x5_2 < (l0_2.length : Int) := of_decide_eq_true dt_
                    obtain ⟨ad2282, e2282, hx2282_0, hx2282_1, hx2282_2, hx2282_3, hx2282_4⟩ := at_Item HR0_2.out x5_2 p2282 q2282
                    cases e2282
                    replace hx2282_0 := hc_ HB hx2282_0
                    replace hx2282_1 := hc_ HB hx2282_1
                    replace hx2282_2 := hc_ HB hx2282_2
                    replace hx2282_3 := hc_ HB hx2282_3
                    replace hx2282_4 := hc_ HB hx2282_4
                    replace p2282 := eq_true p2282
                    replace q2282 := eq_true q2282
                    have hcz27_0 : wr.cell? ⟨gb2281, 0, none⟩ = some (.int .i64 a1_0) := bc_ BK2281 0
                    have hcz27_1 : wr.cell? ⟨gb2281, 1, none⟩ = some (.int .i64 a1_1) := bc_ BK2281 1
                    have hcz27_2 : wr.cell? ⟨gb2281, 2, none⟩ = some (.slice A1_2 l1_2.length c1_2) := bc_ BK2281 2
                    have hfz27_0 := blk_frozen BK2281.out 0
                    have hfz27_1 := blk_frozen BK2281.out 1
                    have hfz27_2 := blk_frozen BK2281.out 2
                    have p2283 : 0 ≤ (x5_2 : Int) := of_decide_eq_true dt_
                    have q2283 : x5_2 < (l1_2.length : Int) := of_decide_eq_true dt_
                    obtain ⟨ad2283, e2283, hx2283_0, hx2283_1, hx2283_2, hx2283_3, hx2283_4⟩ := at_Item HR1_2.out x5_2 p2283 q2283
                    cases e2283
                    replace hx2283_0 := hc_ HB hx2283_0
                    replace hx2283_1 := hc_ HB hx2283_1
                    replace hx2283_2 := hc_ HB hx2283_2
                    replace hx2283_3 := hc_ HB hx2283_3
                    replace hx2283_4 := hc_ HB hx2283_4
                    replace p2283 := eq_true p2283
                    replace q2283 := eq_true q2283
                    go_wp2
                    repeat (go_quiet (fail); try go_wp2)
                    go_roundg k2
                    case measure => have := HJ2.out; have := HK2.out; omega
                    case rel => exact ⟨(wrap64 (x5_2 + 1)), (qg4_), H', ⟨by have := HJ2.out; have := HK2.out; omega⟩, ⟨bq_ BK2280.out⟩, ⟨bq_ BK2281.out⟩, ⟨qg0_⟩⟩
                · rw [if_neg c20] at H
                  exact absurd H (by simp)
              · rw [if_neg c19] at H
                exact absurd H (by simp)
            · rw [if_neg c18] at H
              have c18b0 : decide (x5_2 < (l0_2.length : Int)) = false := decide_eq_false c18
              clear c18
              obtain rfl := Option.some.inj H
              have hnb28 := NB2280_2281.out
              have hnc28 := NB2281_2280.out
              have hcz29_0 : wr.cell? ⟨gb2280, 0, none⟩ = some (.int .i64 a0_0) := bc_ BK2280 0
              have hcz29_1 : wr.cell? ⟨gb2280, 1, none⟩ = some (.int .i64 a0_1) := bc_ BK2280 1
              have hcz29_2 : wr.cell? ⟨gb2280, 2, none⟩ = some (.slice A0_2 l0_2.length c0_2) := bc_ BK2280 2
              have hfz29_0 := blk_frozen BK2280.out 0
              have hfz29_1 := blk_frozen BK2280.out 1
              have hfz29_2 := blk_frozen BK2280.out 2
              go_wp2
              repeat (go_quiet (fail); try go_wp2)
              go_ret
              exact ⟨qg3_, qg0_⟩
end
section
attribute [local go_sem high] eqA_Item
/-! ### laws_FnRows: function 6 -/
abbrev laws_FnRows.m0 : Array Bool := #[f_,f_,f_,f_,f_,f_,f_,f_,f_,f_,f_,f_,f_,f_,f_,f_,f_,f_,f_,f_,f_,f_,f_,f_,f_,f_,f_,f_,f_,f_,f_,f_,f_,f_,f_,f_,f_,f_,f_,f_,f_]
abbrev laws_FnRows.m1 : Array Bool := #[t_,f_,f_,f_,f_,f_,f_,f_,f_,f_,f_,f_,f_,f_,f_,f_,f_,f_,f_,f_,f_,f_,f_,f_,f_,f_,f_,f_,f_,f_,f_,f_,f_,f_,f_,f_,f_,f_,f_,f_,f_]
abbrev laws_FnRows.m2 : Array Bool := #[t_,t_,f_,f_,f_,f_,f_,f_,f_,f_,f_,f_,f_,f_,f_,f_,f_,f_,f_,f_,f_,f_,f_,f_,f_,f_,f_,f_,f_,f_,f_,f_,f_,f_,f_,f_,f_,f_,f_,f_,f_]
abbrev laws_FnRows.m3 : Array Bool := #[t_,t_,t_,f_,f_,f_,f_,f_,f_,f_,f_,f_,f_,f_,f_,f_,f_,f_,f_,f_,f_,f_,f_,f_,f_,f_,f_,f_,f_,f_,f_,f_,f_,f_,f_,f_,f_,f_,f_,f_,f_]
abbrev laws_FnRows.m4 : Array Bool := #[t_,t_,t_,t_,f_,f_,f_,f_,f_,f_,f_,f_,f_,f_,f_,f_,f_,f_,f_,f_,f_,f_,f_,f_,f_,f_,f_,f_,f_,f_,f_,f_,f_,f_,f_,f_,f_,f_,f_,f_,f_]
abbrev laws_FnRows.m5 : Array Bool := #[t_,t_,t_,t_,t_,f_,f_,f_,f_,f_,f_,f_,f_,f_,f_,f_,f_,f_,f_,f_,f_,f_,f_,f_,f_,f_,f_,f_,f_,f_,f_,f_,f_,f_,f_,f_,f_,f_,f_,f_,f_]
abbrev laws_FnRows.m6 : Array Bool := #[t_,t_,t_,t_,t_,t_,f_,f_,f_,f_,f_,f_,f_,f_,f_,f_,f_,f_,f_,f_,f_,f_,f_,f_,f_,f_,f_,f_,f_,f_,f_,f_,f_,f_,f_,f_,f_,f_,f_,f_,f_]
abbrev laws_FnRows.m7 : Array Bool := #[t_,t_,t_,t_,t_,t_,t_,f_,f_,f_,f_,f_,f_,f_,f_,f_,f_,f_,f_,f_,f_,f_,f_,f_,f_,f_,f_,f_,f_,f_,f_,f_,f_,f_,f_,f_,f_,f_,f_,f_,f_]
abbrev laws_FnRows.m8 : Array Bool := #[t_,t_,t_,t_,t_,t_,t_,t_,f_,f_,f_,f_,f_,f_,f_,f_,f_,f_,f_,f_,f_,f_,f_,f_,f_,f_,f_,f_,f_,f_,f_,f_,f_,f_,f_,f_,f_,f_,f_,f_,f_]
abbrev laws_FnRows.m9 : Array Bool := #[t_,t_,t_,t_,t_,t_,t_,t_,t_,f_,f_,f_,f_,f_,f_,f_,f_,f_,f_,f_,f_,f_,f_,f_,f_,f_,f_,f_,f_,f_,f_,f_,f_,f_,f_,f_,f_,f_,f_,f_,f_]
abbrev laws_FnRows.m10 : Array Bool := #[t_,t_,t_,t_,t_,t_,t_,t_,t_,t_,f_,f_,f_,f_,f_,f_,f_,f_,f_,f_,f_,f_,f_,f_,f_,f_,f_,f_,f_,f_,f_,f_,f_,f_,f_,f_,f_,f_,f_,f_,f_]
abbrev laws_FnRows.m11 : Array Bool := #[t_,t_,t_,t_,t_,t_,t_,t_,t_,t_,t_,f_,f_,f_,f_,f_,f_,f_,f_,f_,f_,f_,f_,f_,f_,f_,f_,f_,f_,f_,f_,f_,f_,f_,f_,f_,f_,f_,f_,f_,f_]
abbrev laws_FnRows.m12 : Array Bool := #[t_,t_,t_,t_,t_,t_,t_,t_,t_,t_,t_,t_,f_,f_,f_,f_,f_,f_,f_,f_,f_,f_,f_,f_,f_,f_,f_,f_,f_,f_,f_,f_,f_,f_,f_,f_,f_,f_,f_,f_,f_]
abbrev laws_FnRows.m13 : Array Bool := #[t_,t_,t_,t_,t_,t_,t_,t_,t_,t_,t_,t_,t_,f_,f_,f_,f_,f_,f_,f_,f_,f_,f_,f_,f_,f_,f_,f_,f_,f_,f_,f_,f_,f_,f_,f_,f_,f_,f_,f_,f_]
abbrev laws_FnRows.m14 : Array Bool := #[t_,t_,t_,t_,t_,t_,t_,t_,t_,t_,t_,t_,t_,t_,f_,f_,f_,f_,f_,f_,f_,f_,f_,f_,f_,f_,f_,f_,f_,f_,f_,f_,f_,f_,f_,f_,f_,f_,f_,f_,f_]
abbrev laws_FnRows.m15 : Array Bool := #[t_,t_,t_,t_,t_,t_,t_,t_,t_,t_,t_,t_,t_,t_,t_,f_,f_,f_,f_,f_,f_,f_,f_,f_,f_,f_,f_,f_,f_,f_,f_,f_,f_,f_,f_,f_,f_,f_,f_,f_,f_]
abbrev laws_FnRows.m16 : Array Bool := #[t_,t_,t_,t_,t_,t_,t_,t_,t_,t_,t_,t_,t_,t_,t_,t_,f_,f_,f_,f_,f_,f_,f_,f_,f_,f_,f_,f_,f_,f_,f_,f_,f_,f_,f_,f_,f_,f_,f_,f_,f_]
abbrev laws_FnRows.m17 : Array Bool := #[t_,t_,t_,t_,t_,t_,t_,t_,t_,t_,t_,t_,t_,t_,t_,t_,t_,f_,f_,f_,f_,f_,f_,f_,f_,f_,f_,f_,f_,f_,f_,f_,f_,f_,f_,f_,f_,f_,f_,f_,f_]
abbrev laws_FnRows.m18 : Array Bool := #[t_,t_,t_,t_,t_,t_,t_,t_,t_,t_,t_,t_,t_,t_,t_,t_,t_,t_,f_,f_,f_,f_,f_,f_,f_,f_,f_,f_,f_,f_,f_,f_,f_,f_,f_,f_,f_,f_,f_,f_,f_]
abbrev laws_FnRows.m19 : Array Bool := #[t_,t_,t_,t_,t_,t_,t_,t_,t_,t_,t_,t_,t_,t_,t_,t_,t_,t_,t_,f_,f_,f_,f_,f_,f_,f_,f_,f_,f_,f_,f_,f_,f_,f_,f_,f_,f_,f_,f_,f_,f_]
abbrev laws_FnRows.m20 : Array Bool := #[t_,t_,t_,t_,t_,t_,t_,t_,t_,t_,t_,t_,t_,t_,t_,t_,t_,t_,t_,t_,f_,f_,f_,f_,f_,f_,f_,f_,f_,f_,f_,f_,f_,f_,f_,f_,f_,f_,f_,f_,f_]
abbrev laws_FnRows.m21 : Array Bool := #[t_,t_,t_,t_,t_,t_,t_,t_,t_,t_,t_,t_,t_,t_,t_,t_,t_,t_,t_,t_,t_,f_,f_,f_,f_,f_,f_,f_,f_,f_,f_,f_,f_,f_,f_,f_,f_,f_,f_,f_,f_]
abbrev laws_FnRows.m22 : Array Bool := #[t_,t_,t_,t_,t_,t_,t_,t_,t_,t_,t_,t_,t_,t_,t_,t_,t_,t_,t_,t_,t_,t_,f_,f_,f_,f_,f_,f_,f_,f_,f_,f_,f_,f_,f_,f_,f_,f_,f_,f_,f_]
abbrev laws_FnRows.m23 : Array Bool := #[t_,t_,t_,t_,t_,t_,t_,t_,t_,t_,t_,t_,t_,t_,t_,t_,t_,t_,t_,t_,t_,t_,t_,f_,f_,f_,f_,f_,f_,f_,f_,f_,f_,f_,f_,f_,f_,f_,f_,f_,f_]
abbrev laws_FnRows.m24 : Array Bool := #[t_,t_,t_,t_,t_,t_,t_,t_,t_,t_,t_,t_,t_,t_,t_,t_,t_,t_,t_,t_,t_,t_,t_,t_,f_,f_,f_,f_,f_,f_,f_,f_,f_,f_,f_,f_,f_,f_,f_,f_,f_]
abbrev laws_FnRows.m25 : Array Bool := #[t_,t_,t_,t_,t_,t_,t_,t_,t_,t_,t_,t_,t_,t_,t_,t_,t_,t_,t_,t_,t_,t_,t_,t_,t_,f_,f_,f_,f_,f_,f_,f_,f_,f_,f_,f_,f_,f_,f_,f_,f_]
abbrev laws_FnRows.m26 : Array Bool := #[t_,t_,t_,t_,t_,t_,t_,t_,t_,t_,t_,t_,t_,t_,t_,t_,t_,t_,t_,t_,t_,t_,t_,t_,t_,t_,f_,f_,f_,f_,f_,f_,f_,f_,f_,f_,f_,f_,f_,f_,f_]
abbrev laws_FnRows.m27 : Array Bool := #[t_,t_,t_,t_,t_,t_,t_,t_,t_,t_,t_,t_,t_,t_,t_,t_,t_,t_,t_,t_,t_,t_,t_,t_,t_,t_,t_,f_,f_,f_,f_,f_,f_,f_,f_,f_,f_,f_,f_,f_,f_]
abbrev laws_FnRows.m28 : Array Bool := #[t_,t_,t_,t_,t_,t_,t_,t_,t_,t_,t_,t_,t_,t_,t_,t_,t_,t_,t_,t_,t_,t_,t_,t_,t_,t_,t_,t_,f_,f_,f_,f_,f_,f_,f_,f_,f_,f_,f_,f_,f_]
abbrev laws_FnRows.m29 : Array Bool := #[t_,t_,t_,t_,t_,t_,t_,t_,t_,t_,t_,t_,t_,t_,t_,t_,t_,t_,t_,t_,t_,t_,t_,t_,t_,t_,t_,t_,t_,f_,f_,f_,f_,f_,f_,f_,f_,f_,f_,f_,f_]
abbrev laws_FnRows.m30 : Array Bool := #[t_,t_,t_,t_,t_,t_,t_,t_,t_,t_,t_,t_,t_,t_,t_,t_,t_,t_,t_,t_,t_,t_,t_,t_,t_,t_,t_,t_,t_,t_,f_,f_,f_,f_,f_,f_,f_,f_,f_,f_,f_]
abbrev laws_FnRows.m31 : Array Bool := #[t_,t_,t_,t_,t_,t_,t_,t_,t_,t_,t_,t_,t_,t_,t_,t_,t_,t_,t_,t_,t_,t_,t_,t_,t_,t_,t_,t_,t_,t_,t_,f_,f_,f_,f_,f_,f_,f_,f_,f_,f_]
abbrev laws_FnRows.m32 : Array Bool := #[t_,t_,t_,t_,t_,t_,t_,t_,t_,t_,t_,t_,t_,t_,t_,t_,t_,t_,t_,t_,t_,t_,t_,t_,t_,t_,t_,t_,t_,t_,t_,t_,f_,f_,f_,f_,f_,f_,f_,f_,f_]
abbrev laws_FnRows.m33 : Array Bool := #[t_,t_,t_,t_,t_,t_,t_,t_,t_,t_,t_,t_,t_,t_,t_,t_,t_,t_,t_,t_,t_,t_,t_,t_,t_,t_,t_,t_,t_,t_,t_,t_,t_,f_,f_,f_,f_,f_,f_,f_,f_]
abbrev laws_FnRows.m34 : Array Bool := #[t_,t_,t_,t_,t_,t_,t_,t_,t_,t_,t_,t_,t_,t_,t_,t_,t_,t_,t_,t_,t_,t_,t_,t_,t_,t_,t_,t_,t_,t_,t_,t_,t_,t_,f_,f_,f_,f_,f_,f_,f_]
abbrev laws_FnRows.m35 : Array Bool := #[t_,t_,t_,t_,t_,t_,t_,t_,t_,t_,t_,t_,t_,t_,t_,t_,t_,t_,t_,t_,t_,t_,t_,t_,t_,t_,t_,t_,t_,t_,t_,t_,t_,t_,t_,f_,f_,f_,f_,f_,f_]
abbrev laws_FnRows.m36 : Array Bool := #[t_,t_,t_,t_,t_,t_,t_,t_,t_,t_,t_,t_,t_,t_,t_,t_,t_,t_,t_,t_,t_,t_,t_,t_,t_,t_,t_,t_,t_,t_,t_,t_,t_,t_,t_,t_,f_,f_,f_,f_,f_]
abbrev laws_FnRows.m37 : Array Bool := #[t_,t_,t_,t_,t_,t_,t_,t_,t_,t_,t_,t_,t_,t_,t_,t_,t_,t_,t_,t_,t_,t_,t_,t_,t_,t_,t_,t_,t_,t_,t_,t_,t_,t_,t_,t_,t_,f_,f_,f_,f_]
abbrev laws_FnRows.m38 : Array Bool := #[t_,t_,t_,t_,t_,t_,t_,t_,t_,t_,t_,t_,t_,t_,t_,t_,t_,t_,t_,t_,t_,t_,t_,t_,t_,t_,t_,t_,t_,t_,t_,t_,t_,t_,t_,t_,t_,t_,f_,f_,f_]
abbrev laws_FnRows.m39 : Array Bool := #[t_,t_,t_,t_,t_,t_,t_,t_,t_,t_,t_,t_,t_,t_,t_,t_,t_,t_,t_,t_,t_,t_,t_,t_,t_,t_,t_,t_,t_,t_,t_,t_,t_,t_,t_,t_,t_,t_,t_,f_,f_]
abbrev laws_FnRows.m40 : Array Bool := #[t_,t_,t_,t_,t_,t_,t_,t_,t_,t_,t_,t_,t_,t_,t_,t_,t_,t_,t_,t_,t_,t_,t_,t_,t_,t_,t_,t_,t_,t_,t_,t_,t_,t_,t_,t_,t_,t_,t_,t_,f_]
abbrev laws_FnRows.m41 : Array Bool := #[t_,t_,t_,t_,t_,t_,t_,t_,t_,t_,t_,t_,t_,t_,t_,t_,t_,t_,t_,t_,t_,t_,t_,t_,t_,t_,t_,t_,t_,t_,t_,t_,t_,t_,t_,t_,t_,t_,t_,t_,t_]
mutual
def laws_FnRows.j0 : Nat → List Int → Option (Bool)
 | 0, _ => none
 | k + 1, x0 => (spec_DrawRowPut.f k x0).bind fun bt2285 => ((impl_RowPut.f k bt2285.1 bt2285.2.1 bt2285.2.2.1 bt2285.2.2.2.1 bt2285.2.2.2.2.1 bt2285.2.2.2.2.2.1 bt2285.2.2.2.2.2.2).bind fun bt2295 => ((spec_RowPut.f k bt2285.1 bt2285.2.1 bt2285.2.2.1 bt2285.2.2.2.1 bt2285.2.2.2.2.1 bt2285.2.2.2.2.2.1 bt2285.2.2.2.2.2.2).bind fun bt2303 => ((spec_DrawRowGet.f k x0).bind fun bt2311 => ((impl_RowGet.f k bt2311.1 bt2311.2.1 bt2311.2.2.1 bt2311.2.2.2).bind fun bt2318 => ((spec_RowGet.f k bt2311.1 bt2311.2.1 bt2311.2.2.1 bt2311.2.2.2).bind fun bt2325 => ((spec_DrawLatest.f k x0).bind fun bt2332 => ((impl_Latest.f k bt2332.1 bt2332.2.1 bt2332.2.2.1 bt2332.2.2.2).bind fun bt2339 => ((spec_Latest.f k bt2332.1 bt2332.2.1 bt2332.2.2.1 bt2332.2.2.2).bind fun bt2346 => (if (bt2295.2.2.2.2 != bt2303.2.2.2.2) = true then (laws_FnRows.j1 k bt2285.2.2.2.1 bt2285.2.2.2.2.1 bt2295.2.2.2.1 bt2295.2.2.2.2 true bt2285.1 bt2285.2.1 bt2285.2.2.1 bt2295.1 bt2295.2.1 bt2295.2.2.1) else (if bt2295.2.2.2.1 = bt2303.2.2.2.1 then ((laws_sameRow.f k bt2295.1 bt2295.2.1 bt2295.2.2.1 bt2303.1 bt2303.2.1 bt2303.2.2.1).bind fun t2353 => (if t2353 = true then (if (!(bt2318.1 == bt2325.1) || (!(bt2318.2.1.toList == bt2325.2.1.toList) || (!(bt2318.2.2.1.toList == bt2325.2.2.1.toList) || (!(bt2318.2.2.2.1 == bt2325.2.2.2.1) || (!(bt2318.2.2.2.2.1 == bt2325.2.2.2.2.1)))))) = true then (laws_FnRows.j1 k bt2285.2.2.2.1 bt2285.2.2.2.2.1 bt2295.2.2.2.1 bt2295.2.2.2.2 true bt2285.1 bt2285.2.1 bt2285.2.2.1 bt2295.1 bt2295.2.1 bt2295.2.2.1) else (if bt2318.2.2.2.2.2 = bt2325.2.2.2.2.2 then (if (!(bt2339.1 == bt2346.1) || (!(bt2339.2.1.toList == bt2346.2.1.toList) || (!(bt2339.2.2.1.toList == bt2346.2.2.1.toList) || (!(bt2339.2.2.2.1 == bt2346.2.2.2.1) || (!(bt2339.2.2.2.2.1 == bt2346.2.2.2.2.1)))))) = true then (laws_FnRows.j1 k bt2285.2.2.2.1 bt2285.2.2.2.2.1 bt2295.2.2.2.1 bt2295.2.2.2.2 true bt2285.1 bt2285.2.1 bt2285.2.2.1 bt2295.1 bt2295.2.1 bt2295.2.2.1) else (if (bt2339.2.2.2.2.2 != bt2346.2.2.2.2.2) = true then (laws_FnRows.j1 k bt2285.2.2.2.1 bt2285.2.2.2.2.1 bt2295.2.2.2.1 bt2295.2.2.2.2 true bt2285.1 bt2285.2.1 bt2285.2.2.1 bt2295.1 bt2295.2.1 bt2295.2.2.1) else ((impl_RowOk.f k bt2285.1 bt2285.2.1 bt2285.2.2.1).bind fun t2354 => ((spec_RowOk.f k bt2285.1 bt2285.2.1 bt2285.2.2.1).bind fun t2355 => (laws_FnRows.j1 k bt2285.2.2.2.1 bt2285.2.2.2.2.1 bt2295.2.2.2.1 bt2295.2.2.2.2 (t2354 != t2355) bt2285.1 bt2285.2.1 bt2285.2.2.1 bt2295.1 bt2295.2.1 bt2295.2.2.1))))) else (laws_FnRows.j1 k bt2285.2.2.2.1 bt2285.2.2.2.2.1 bt2295.2.2.2.1 bt2295.2.2.2.2 true bt2285.1 bt2285.2.1 bt2285.2.2.1 bt2295.1 bt2295.2.1 bt2295.2.2.1))) else (laws_FnRows.j1 k bt2285.2.2.2.1 bt2285.2.2.2.2.1 bt2295.2.2.2.1 bt2295.2.2.2.2 true bt2285.1 bt2285.2.1 bt2285.2.2.1 bt2295.1 bt2295.2.1 bt2295.2.2.1))) else (laws_FnRows.j1 k bt2285.2.2.2.1 bt2285.2.2.2.2.1 bt2295.2.2.2.1 bt2295.2.2.2.2 true bt2285.1 bt2285.2.1 bt2285.2.2.1 bt2295.1 bt2295.2.1 bt2295.2.2.1)))))))))))
def laws_FnRows.j1 : Nat → ByteArray → ByteArray → Int → Bool → Bool → Int → Int → List (S_Item) → Int → Int → List (S_Item) → Option (Bool)
 | 0, _, _, _, _, _, _, _, _, _, _, _ => none
 | k + 1, x4, x5, x9, x10, x137, x2295000, x2295001, x2295002, x2303000, x2303001, x2303002 => if x137 = true then (some false) else (laws_FnRows.j2 k x4 x5 x9 x10 x2295000 x2295001 x2295002 x2303000 x2303001 x2303002)
def laws_FnRows.j2 : Nat → ByteArray → ByteArray → Int → Bool → Int → Int → List (S_Item) → Int → Int → List (S_Item) → Option (Bool)
 | 0, _, _, _, _, _, _, _, _, _, _ => none
 | k + 1, x4, x5, x9, x10, x2295000, x2295001, x2295002, x2303000, x2303001, x2303002 => if x10 = true then (laws_FnRows.j3 k x4 x5 x9 x2295000 x2295001 x2295002 x2303000 x2303001 x2303002) else ((laws_sameRow.f k x2303000 x2303001 x2303002 x2295000 x2295001 x2295002).bind fun t2356 => (some t2356))
def laws_FnRows.j3 : Nat → ByteArray → ByteArray → Int → Int → Int → List (S_Item) → Int → Int → List (S_Item) → Option (Bool)
 | 0, _, _, _, _, _, _, _, _, _ => none
 | k + 1, x4, x5, x9, x2295000, x2295001, x2295002, x2303000, x2303001, x2303002 => (impl_RowGet.f k x2303000 x2303001 x2303002 x9).bind fun bt2357 => (if bt2357.2.2.2.2.2 = 0 then (if bt2357.1 = x9 then (if bt2357.2.1.toList = x4.toList then (if bt2357.2.2.1.toList = x5.toList then (laws_FnRows.j4 k (x2303001 != (wrap64 (x9 + 1))) x2295000 x2295001 x2295002 x2303000 x2303001 x2303002) else (laws_FnRows.j4 k true x2295000 x2295001 x2295002 x2303000 x2303001 x2303002)) else (laws_FnRows.j4 k true x2295000 x2295001 x2295002 x2303000 x2303001 x2303002)) else (laws_FnRows.j4 k true x2295000 x2295001 x2295002 x2303000 x2303001 x2303002)) else (laws_FnRows.j4 k true x2295000 x2295001 x2295002 x2303000 x2303001 x2303002))
def laws_FnRows.j4 : Nat → Bool → Int → Int → List (S_Item) → Int → Int → List (S_Item) → Option (Bool)
 | 0, _, _, _, _, _, _, _ => none
 | k + 1, x175, x2295000, x2295001, x2295002, x2303000, x2303001, x2303002 => if x175 = true then (some false) else (laws_FnRows.j5 k x2295000 x2295001 x2295002 x2303000 x2303001 x2303002)
def laws_FnRows.j5 : Nat → Int → Int → List (S_Item) → Int → Int → List (S_Item) → Option (Bool)
 | 0, _, _, _, _, _, _ => none
 | k + 1, x2295000, x2295001, x2295002, x2303000, x2303001, x2303002 => laws_FnRows.l0 k x2295000 x2295000 x2295001 x2295002 x2303000 x2303001 x2303002
def laws_FnRows.j10 : Nat → Int → Int → List (S_Item) → Option (Bool)
 | 0, _, _, _ => none
 | k + 1, x2303000, x2303001, x2303002 => (impl_RowOk.f k x2303000 x2303001 x2303002).bind fun t2378 => (some t2378)
def laws_FnRows.l0 : Nat → Int → Int → Int → List (S_Item) → Int → Int → List (S_Item) → Option (Bool)
 | 0, _, _, _, _, _, _, _ => none
 | k + 1, x28, x2295000, x2295001, x2295002, x2303000, x2303001, x2303002 => if x28 < x2295001 then (laws_FnRows.j7 k x28 (decide (x28 < 100)) x2295000 x2295001 x2295002 x2303000 x2303001 x2303002) else (laws_FnRows.j7 k x28 false x2295000 x2295001 x2295002 x2303000 x2303001 x2303002)
def laws_FnRows.j7 : Nat → Int → Bool → Int → Int → List (S_Item) → Int → Int → List (S_Item) → Option (Bool)
 | 0, _, _, _, _, _, _, _, _ => none
 | k + 1, x28, x185, x2295000, x2295001, x2295002, x2303000, x2303001, x2303002 => if x185 = true then (laws_FnRows.j8 k x28 x2295000 x2295001 x2295002 x2303000 x2303001 x2303002) else (laws_FnRows.j10 k x2303000 x2303001 x2303002)
def laws_FnRows.j8 : Nat → Int → Int → Int → List (S_Item) → Int → Int → List (S_Item) → Option (Bool)
 | 0, _, _, _, _, _, _, _ => none
 | k + 1, x28, x2295000, x2295001, x2295002, x2303000, x2303001, x2303002 => (impl_RowGet.f k x2295000 x2295001 x2295002 x28).bind fun bt2364 => ((impl_RowGet.f k x2303000 x2303001 x2303002 x28).bind fun bt2371 => (if bt2364.2.2.2.2.2 = 0 then (if bt2371.2.2.2.2.2 = bt2364.2.2.2.2.2 then (laws_FnRows.j9 k x28 (!(bt2364.1 == bt2371.1) || (!(bt2364.2.1.toList == bt2371.2.1.toList) || (!(bt2364.2.2.1.toList == bt2371.2.2.1.toList) || (!(bt2364.2.2.2.1 == bt2371.2.2.2.1) || (!(bt2364.2.2.2.2.1 == bt2371.2.2.2.2.1)))))) x2295000 x2295001 x2295002 x2303000 x2303001 x2303002) else (laws_FnRows.j9 k x28 true x2295000 x2295001 x2295002 x2303000 x2303001 x2303002)) else (laws_FnRows.j9 k x28 false x2295000 x2295001 x2295002 x2303000 x2303001 x2303002)))
def laws_FnRows.j9 : Nat → Int → Bool → Int → Int → List (S_Item) → Int → Int → List (S_Item) → Option (Bool)
 | 0, _, _, _, _, _, _, _, _ => none
 | k + 1, x28, x211, x2295000, x2295001, x2295002, x2303000, x2303001, x2303002 => if x211 = true then (some false) else (laws_FnRows.l0 k (wrap64 (x28 + 1)) x2295000 x2295001 x2295002 x2303000 x2303001 x2303002)
end
def laws_FnRows.f (k : Nat) (l0 : List Int) : Option (Bool) := (laws_big.f l0).bind fun t2284 => (if t2284 = true then (some true) else (laws_FnRows.j0 k l0))
theorem laws_FnRows.mono_l : ∀ k, (∀ y0, LeO (laws_FnRows.j0 k y0) (laws_FnRows.j0 (k + 1) y0)) ∧ (∀ y0 y1 y2 y3 y4 y5 y6 y7 y8 y9 y10, LeO (laws_FnRows.j1 k y0 y1 y2 y3 y4 y5 y6 y7 y8 y9 y10) (laws_FnRows.j1 (k + 1) y0 y1 y2 y3 y4 y5 y6 y7 y8 y9 y10)) ∧ (∀ y0 y1 y2 y3 y4 y5 y6 y7 y8 y9, LeO (laws_FnRows.j2 k y0 y1 y2 y3 y4 y5 y6 y7 y8 y9) (laws_FnRows.j2 (k + 1) y0 y1 y2 y3 y4 y5 y6 y7 y8 y9)) ∧ (∀ y0 y1 y2 y3 y4 y5 y6 y7 y8, LeO (laws_FnRows.j3 k y0 y1 y2 y3 y4 y5 y6 y7 y8) (laws_FnRows.j3 (k + 1) y0 y1 y2 y3 y4 y5 y6 y7 y8)) ∧ (∀ y0 y1 y2 y3 y4 y5 y6, LeO (laws_FnRows.j4 k y0 y1 y2 y3 y4 y5 y6) (laws_FnRows.j4 (k + 1) y0 y1 y2 y3 y4 y5 y6)) ∧ (∀ y0 y1 y2 y3 y4 y5, LeO (laws_FnRows.j5 k y0 y1 y2 y3 y4 y5) (laws_FnRows.j5 (k + 1) y0 y1 y2 y3 y4 y5)) ∧ (∀ y0 y1 y2, LeO (laws_FnRows.j10 k y0 y1 y2) (laws_FnRows.j10 (k + 1) y0 y1 y2)) ∧ (∀ y0 y1 y2 y3 y4 y5 y6, LeO (laws_FnRows.l0 k y0 y1 y2 y3 y4 y5 y6) (laws_FnRows.l0 (k + 1) y0 y1 y2 y3 y4 y5 y6)) ∧ (∀ y0 y1 y2 y3 y4 y5 y6 y7, LeO (laws_FnRows.j7 k y0 y1 y2 y3 y4 y5 y6 y7) (laws_FnRows.j7 (k + 1) y0 y1 y2 y3 y4 y5 y6 y7)) ∧ (∀ y0 y1 y2 y3 y4 y5 y6, LeO (laws_FnRows.j8 k y0 y1 y2 y3 y4 y5 y6) (laws_FnRows.j8 (k + 1) y0 y1 y2 y3 y4 y5 y6)) ∧ (∀ y0 y1 y2 y3 y4 y5 y6 y7, LeO (laws_FnRows.j9 k y0 y1 y2 y3 y4 y5 y6 y7) (laws_FnRows.j9 (k + 1) y0 y1 y2 y3 y4 y5 y6 y7))
 | 0 => ⟨fun _ r h => by simp [laws_FnRows.j0] at h, fun _ _ _ _ _ _ _ _ _ _ _ r h => by simp [laws_FnRows.j1] at h, fun _ _ _ _ _ _ _ _ _ _ r h => by simp [laws_FnRows.j2] at h, fun _ _ _ _ _ _ _ _ _ r h => by simp [laws_FnRows.j3] at h, fun _ _ _ _ _ _ _ r h => by simp [laws_FnRows.j4] at h, fun _ _ _ _ _ _ r h => by simp [laws_FnRows.j5] at h, fun _ _ _ r h => by simp [laws_FnRows.j10] at h, fun _ _ _ _ _ _ _ r h => by simp [laws_FnRows.l0] at h, fun _ _ _ _ _ _ _ _ r h => by simp [laws_FnRows.j7] at h, fun _ _ _ _ _ _ _ r h => by simp [laws_FnRows.j8] at h, fun _ _ _ _ _ _ _ _ r h => by simp [laws_FnRows.j9] at h⟩
 | k + 1 => by
  obtain ⟨ih0, ih1, ih2, ih3, ih4, ih5, ih6, ih7, ih8, ih9, ih10⟩ := laws_FnRows.mono_l k
  refine ⟨?_, ?_, ?_, ?_, ?_, ?_, ?_, ?_, ?_, ?_, ?_⟩
  ·
   intro y0
   unfold laws_FnRows.j0
   exact qgh1_
  ·
   intro y0 y1 y2 y3 y4 y5 y6 y7 y8 y9 y10
   unfold laws_FnRows.j1
   exact qgh1_
  ·
   intro y0 y1 y2 y3 y4 y5 y6 y7 y8 y9
   unfold laws_FnRows.j2
   exact qgh1_
  ·
   intro y0 y1 y2 y3 y4 y5 y6 y7 y8
   unfold laws_FnRows.j3
   exact qgh1_
  ·
   intro y0 y1 y2 y3 y4 y5 y6
   unfold laws_FnRows.j4
   exact qgh1_
  ·
   intro y0 y1 y2 y3 y4 y5
   unfold laws_FnRows.j5
   exact qgh1_
  ·
   intro y0 y1 y2
   unfold laws_FnRows.j10
   exact qgh1_
  ·
   intro y0 y1 y2 y3 y4 y5 y6
   unfold laws_FnRows.l0
   exact qgh1_
  ·
   intro y0 y1 y2 y3 y4 y5 y6 y7
   unfold laws_FnRows.j7
   exact qgh1_
  ·
   intro y0 y1 y2 y3 y4 y5 y6
   unfold laws_FnRows.j8
   exact qgh1_
  ·
   intro y0 y1 y2 y3 y4 y5 y6 y7
   unfold laws_FnRows.j9
   exact qgh1_
theorem laws_FnRows.mono : ∀ a0 k, LeO (laws_FnRows.f k a0) (laws_FnRows.f (k + 1) a0) := by
 intro a0 k
 obtain ⟨ih0, ih1, ih2, ih3, ih4, ih5, ih6, ih7, ih8, ih9, ih10⟩ := laws_FnRows.mono_l k
 unfold laws_FnRows.f
 exact qgh1_
def laws_FnRows.T12 : Bool × List (List Nat × List Nat) := (true, [([], []), ([], []), ([0, 1], [0, 1]), ([2], [2]), ([3], [3]), ([3], [3]), ([4, 5, 3], [3, 4, 5]), ([3, 6], [3, 6]), ([7, 3], [7]), ([8], [8]), ([8], [8]), ([9, 10, 8, 8], [8, 9, 10]), ([11, 8], [8, 11]), ([8, 12], [8, 12]), ([13, 11], [13]), ([14], [14]), ([14], [14]), ([15, 16, 14], [14, 15, 16]), ([14, 17], [14, 17]), ([18, 14], [18]), ([19], [19]), ([19], [19]), ([20, 21, 19], [19, 20, 21]), ([19, 22], [19, 22]), ([23, 19], [23]), ([24], [24]), ([24], [24]), ([25, 26, 24], [24, 25, 26]), ([24, 27], [24, 27]), ([28, 24], [28]), ([29], [29]), ([29], [29]), ([30, 31, 29], [29, 30, 31]), ([29, 32], [29, 32]), ([33, 29], [33]), ([34], [34]), ([35, 34, 34], [34, 35]), ([34], [34]), ([37, 36, 34], [34, 37]), ([36, 38, 34], [34, 36, 38]), ([34, 39], [34, 39])])
def laws_FnRows.B12 : List Nat := [0, 0, 3, 7, 15, 15, 63, 127, 255, 511, 511, 2047, 4095, 8191, 16383, 32767, 32767, 131071, 262143, 524287, 1048575, 1048575, 4194303, 8388607, 16777215, 33554431, 33554431, 134217727, 268435455, 536870911, 1073741823, 1073741823, 4294967295, 8589934591, 17179869183, 34359738367, 68719476735, 34359738367, 274877906943, 549755813887, 1099511627775]
theorem laws_FnRows.tab12 : rtab .any (opsOf Try.f6 12) = laws_FnRows.T12 := by kernel_rfl
theorem laws_FnRows.bits12 : waitsOk laws_FnRows.T12.2 laws_FnRows.B12 = true := by kernel_rfl
end
end Go.Proofs.Ytiknkolclcdajaa.Q
