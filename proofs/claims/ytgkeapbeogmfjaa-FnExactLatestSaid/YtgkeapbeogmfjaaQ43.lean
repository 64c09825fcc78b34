/- Made by a program of ours out of the print of the loaded functions: for each of some functions a plain function, and the walk that shows that a call comes to what it says. No condition but those of each theorem. -/
import Derived.Test.YtgkeapbeogmfjaaQ0
namespace Go.Proofs.Ytgkeapbeogmfjaa.Q
open Go.RowKit Go.Proofs.YtgkeapbeogmfjaaW.PrintWords Go.Proofs.YtgkeapbeogmfjaaW.PrintLast Go.Proofs.YtgkeapbeogmfjaaW.PrintMore
attribute [local go_sem] max2_int min2_int max_two min_two max_three min_three max_four min_four   -- for this text's walks alone
set_option linter.unusedVariables false
set_option linter.unusedSimpArgs false

/-! ### spec_l1Max: function 113 -/
def spec_l1Max.f (a0 : Int) (a1 : Int) : Option (Int) := if a0 > a1 then (some a0) else (some a1)
set_option maxHeartbeats 8000000 in
set_option maxRecDepth 100000 in
theorem spec_l1Max.calls (a0 : Int) (a1 : Int) (r : Int) (w : World) (h : spec_l1Max.f a0 a1 = some r) :
    Calls Try.prog 113 #[.int .i64 a0, .int .i64 a1] w fun e w' => e = .returned (.int .i64 r) ∧ Drawn0 w w' := by
  have H : (if a0 > a1 then (some a0) else (some a1)) = some r := h
  clear h
  by_cases c3 : a0 > a1
  · rw [if_pos c3] at H
    have c3b0 : decide (a1 < a0) = true := decide_eq_true c3
    clear c3
    obtain rfl := Option.some.inj H
    go_enter Try.func113, Try.ntmps113
    go_wp2
    go_ret
    exact ⟨by first | rfl | (simp; done) | (simp [*]; done), by repeat (first | exact Drawn0.refl _ | apply Drawn0.step)⟩
  · rw [if_neg c3] at H
    have c3b0 : decide (a1 < a0) = false := decide_eq_false c3
    clear c3
    obtain rfl := Option.some.inj H
    go_enter Try.func113, Try.ntmps113
    go_wp2
    go_ret
    exact ⟨by first | rfl | (simp; done) | (simp [*]; done), by repeat (first | exact Drawn0.refl _ | apply Drawn0.step)⟩

/-! ### spec_RowGet: function 31 -/
def spec_RowGet.l0 : Nat → Int → Int → Int → Int → List (S_Item) → Option (Int × ByteArray × ByteArray × Int × Int × Int)
  | 0, _, _, _, _, _ => none
  | k + 1, x1, x6, x911000, x911001, x911002 => if x6 < (x911002.length : Int) then (if 0 ≤ x6 then (if ((rd_Item x911002 x6).f0) ≥ x1 then (some ((rd_Item x911002 x6).f0, (rd_Item x911002 x6).f1, (rd_Item x911002 x6).f2, (rd_Item x911002 x6).f3, (rd_Item x911002 x6).f4, 0)) else (spec_RowGet.l0 k x1 (wrap64 (x6 + 1)) x911000 x911001 x911002)) else (none)) else (some (0, (⟨#[]⟩ : ByteArray), (⟨#[]⟩ : ByteArray), 0, 0, 2))
def spec_RowGet.f (k : Nat) (a0_0 : Int) (a0_1 : Int) (l0_2 : List (S_Item)) (a1 : Int) : Option (Int × ByteArray × ByteArray × Int × Int × Int) := if a1 < a0_0 then (some (0, (⟨#[]⟩ : ByteArray), (⟨#[]⟩ : ByteArray), 0, 0, 1)) else (spec_RowGet.l0 k a1 0 a0_0 a0_1 l0_2)
theorem spec_RowGet.mono_l : ∀ k, (∀ y0 y1 y2 y3 y4, LeO (spec_RowGet.l0 k y0 y1 y2 y3 y4) (spec_RowGet.l0 (k + 1) y0 y1 y2 y3 y4))
  | 0 => fun _ _ _ _ _ r h => by simp [spec_RowGet.l0] at h
  | k + 1 => by
    have ih0 := spec_RowGet.mono_l k
    · intro y0 y1 y2 y3 y4
      unfold spec_RowGet.l0
      repeat' first
      | (with_reducible exact ih0 _ _ _ _ _)
      | (with_reducible exact LeO.refl _)
      | (with_reducible exact LeO.none _)
      | (with_reducible refine LeO.ite ?_ ?_)
      | (with_reducible refine LeO.bind ?_ (fun _ => ?_))
      | exact ih0 _ _ _ _ _
      | exact LeO.none _
      | refine LeO.ite ?_ ?_
      | refine LeO.bind ?_ (fun _ => ?_)
theorem spec_RowGet.mono : ∀ a0 a1 a2 a3 k, LeO (spec_RowGet.f k a0 a1 a2 a3) (spec_RowGet.f (k + 1) a0 a1 a2 a3) := by
  intro a0 a1 a2 a3 k
  have ih0 := spec_RowGet.mono_l k
  unfold spec_RowGet.f
  repeat' first
      | (with_reducible exact ih0 _ _ _ _ _)
      | (with_reducible exact LeO.refl _)
      | (with_reducible exact LeO.none _)
      | (with_reducible refine LeO.ite ?_ ?_)
      | (with_reducible refine LeO.bind ?_ (fun _ => ?_))
      | exact ih0 _ _ _ _ _
      | exact LeO.none _
      | refine LeO.ite ?_ ?_
      | refine LeO.bind ?_ (fun _ => ?_)
set_option maxHeartbeats 8000000 in
set_option maxRecDepth 100000 in
theorem spec_RowGet.calls (k : Nat) (a0_0 : Int) (a0_1 : Int) (A0_2 : Option Addr) (c0_2 : Nat) (l0_2 : List (S_Item)) (a1 : Int) (r1 : Int) (r2 : ByteArray) (r3 : ByteArray) (r4 : Int) (r5 : Int) (r6 : Int) (w : World) (hr0_2 : Kd.C k_Item w A0_2 l0_2.length l0_2) (hc0_2 : l0_2.length ≤ c0_2) (h : spec_RowGet.f k a0_0 a0_1 l0_2 a1 = some (r1, r2, r3, r4, r5, r6)) :
    Calls Try.prog 31 #[.agg #[.int .i64 a0_0, .int .i64 a0_1, .slice A0_2 l0_2.length c0_2], .int .i64 a1] w fun e w' => e = .returned (.tuple #[.agg #[.int .i64 r1, .string r2, .string r3, .int .i64 r4, .int .i64 r5], .int .i64 r6]) ∧ Below w.heap.size w w' := by
  have hu41 := Try.underlying41
  have hu36 := Try.underlying36
  have HR0_2 := Aside0.mk hr0_2
  have HC0_2 := Aside0.mk hc0_2
  clear hr0_2 hc0_2
  have HB := Aside0.mk (Below.refl w.heap.size w)
  have H : (if a1 < a0_0 then (some (0, (⟨#[]⟩ : ByteArray), (⟨#[]⟩ : ByteArray), 0, 0, 1)) else (spec_RowGet.l0 k a1 0 a0_0 a0_1 l0_2)) = some (r1, r2, r3, r4, r5, r6) := h
  clear h
  by_cases c3 : a1 < a0_0
  · rw [if_pos c3] at H
    have c3b0 : decide (a1 < a0_0) = true := decide_eq_true c3
    clear c3
    simp only [Option.some.injEq, Prod.mk.injEq] at H
    obtain ⟨rfl, rfl, rfl, rfl, rfl, rfl⟩ := H
    go_enter Try.func31, Try.ntmps31
    go_wp2_with (first | ((with_reducible refine gate_dst (N := 2) rfl ?_); refine box_event ?hg (N := 2) ?hd (cs := #[.int .i64 a0_0, .int .i64 a0_1, .slice A0_2 l0_2.length c0_2]) (t := 41) ?hr ?_; (case hd => rfl); (case hg => rfl); (case hr => first | (go_simp; done) | (go_simp; rfl)); intro gb910 hg w4 hbox hb; have n0_ := Aside0.mk (below_step (by repeat (first | (with_reducible first | exact HB.out | apply below_alloc | apply pw_below_drewN | apply below_drew1) | exact HB.out)) hb); have n1_ := Aside0.mk (hbox); have n2_ := Aside0.mk ((by rw [hg]; exact (below_size (by repeat (first | (with_reducible first | exact HB.out | apply below_alloc | apply pw_below_drewN | apply below_drew1) | exact HB.out))) : w.heap.size ≤ gb910)); have n3_ := Aside0.mk ((by rw [hg]; exact (below_size (by repeat (first | (with_reducible first | exact HB.out | apply below_alloc | apply pw_below_drewN | apply below_drew1) | exact HB.out))) : w.heap.size ≤ gb910)); clear HB; have HB := n0_; have BK910 := n1_; have GW910 := n2_; have GE910 := n3_; clear n0_ n1_ n2_ n3_; clear hb hbox hg) | ((with_reducible refine gate_dst (N := 4) rfl ?_); refine box_event ?hg (N := 4) ?hd (cs := #[.int .i64 0, .string (⟨#[]⟩ : ByteArray), .string (⟨#[]⟩ : ByteArray), .int .i64 0, .int .i64 0]) (t := 36) ?hr ?_; (case hd => rfl); (case hg => rfl); (case hr => first | (go_simp; done) | (go_simp; rfl)); intro gb911 hg w5 hbox hb; have n0_ := Aside0.mk (blk_below (g := gb910) (o := .cells #[.int .i64 a0_0, .int .i64 a0_1, .slice A0_2 l0_2.length c0_2] 41 (0, 0)) (by (with_reducible repeat (first | refine blk_drewN ?_ _ | refine blk_drew ?_ | refine blk_alloc ?_ _)); exact BK910.out) hb); have n1_ := Aside0.mk (below_step (by repeat (first | (with_reducible first | exact HB.out | apply below_alloc | apply pw_below_drewN | apply below_drew1 | refine below_set ?_ GE910.out) | exact HB.out)) hb); have n2_ := Aside0.mk (hbox); have n3_ := Aside0.mk ((by rw [hg]; exact (below_size (by repeat (first | (with_reducible first | exact HB.out | apply below_alloc | apply pw_below_drewN | apply below_drew1 | refine below_set ?_ GE910.out) | exact HB.out))) : w.heap.size ≤ gb911)); have n4_ := Aside0.mk ((by rw [hg]; exact (below_size (by repeat (first | (with_reducible first | exact HB.out | apply below_alloc | apply pw_below_drewN | apply below_drew1 | refine below_set ?_ GE910.out) | exact HB.out))) : w.heap.size ≤ gb911)); have n5_ := Aside0.mk ((by rw [hg]; exact Nat.ne_of_lt (blk_lt (g := gb910) (o := .cells #[.int .i64 a0_0, .int .i64 a0_1, .slice A0_2 l0_2.length c0_2] 41 (0, 0)) (by (with_reducible repeat (first | refine blk_drewN ?_ _ | refine blk_drew ?_ | refine blk_alloc ?_ _)); exact BK910.out)) : gb910 ≠ gb911)); have n6_ := Aside0.mk ((by rw [hg]; exact Nat.ne_of_gt (blk_lt (g := gb910) (o := .cells #[.int .i64 a0_0, .int .i64 a0_1, .slice A0_2 l0_2.length c0_2] 41 (0, 0)) (by (with_reducible repeat (first | refine blk_drewN ?_ _ | refine blk_drew ?_ | refine blk_alloc ?_ _)); exact BK910.out)) : gb911 ≠ gb910)); clear BK910; clear HB; have BK910 := n0_; have HB := n1_; have BK911 := n2_; have GW911 := n3_; have GE911 := n4_; have NB910_911 := n5_; have NB911_910 := n6_; clear n0_ n1_ n2_ n3_ n4_ n5_ n6_; clear hb hbox hg; have hnb6 := NB910_911.out; have hnc6 := NB911_910.out; have hcz7_0 : w5.cell? ⟨gb910, 0, none⟩ = some (.int .i64 a0_0) := (blk_cell BK910.out 0).trans rfl; have hcz7_1 : w5.cell? ⟨gb910, 1, none⟩ = some (.int .i64 a0_1) := (blk_cell BK910.out 1).trans rfl; have hcz7_2 : w5.cell? ⟨gb910, 2, none⟩ = some (.slice A0_2 l0_2.length c0_2) := (blk_cell BK910.out 2).trans rfl; have hfz7_0 := blk_frozen BK910.out 0; have hfz7_1 := blk_frozen BK910.out 1; have hfz7_2 := blk_frozen BK910.out 2; have hcz8_0 : w5.cell? ⟨gb911, 0, none⟩ = some (.int .i64 0) := (blk_cell BK911.out 0).trans rfl; have hcz8_1 : w5.cell? ⟨gb911, 1, none⟩ = some (.string (⟨#[]⟩ : ByteArray)) := (blk_cell BK911.out 1).trans rfl; have hcz8_2 : w5.cell? ⟨gb911, 2, none⟩ = some (.string (⟨#[]⟩ : ByteArray)) := (blk_cell BK911.out 2).trans rfl; have hcz8_3 : w5.cell? ⟨gb911, 3, none⟩ = some (.int .i64 0) := (blk_cell BK911.out 3).trans rfl; have hcz8_4 : w5.cell? ⟨gb911, 4, none⟩ = some (.int .i64 0) := (blk_cell BK911.out 4).trans rfl; have hfz8_0 := blk_frozen BK911.out 0; have hfz8_1 := blk_frozen BK911.out 1; have hfz8_2 := blk_frozen BK911.out 2; have hfz8_3 := blk_frozen BK911.out 3; have hfz8_4 := blk_frozen BK911.out 4))
    refine bodyPost_ret (results_ct rfl _ _ gb911 36 #[.int .i64 0, .string (⟨#[]⟩ : ByteArray), .string (⟨#[]⟩ : ByteArray), .int .i64 0, .int .i64 0] (0, 0) _ rfl (by (with_reducible repeat (first | refine blk_drewN ?_ _ | refine blk_drew ?_ | refine blk_alloc ?_ _)); refine blk_put (cs := #[.int .i64 0, .string (⟨#[]⟩ : ByteArray), .string (⟨#[]⟩ : ByteArray), .int .i64 0, .int .i64 0]) ?_ 4 _ rfl; (with_reducible repeat (first | refine blk_drewN ?_ _ | refine blk_drew ?_ | refine blk_alloc ?_ _)); refine blk_put (cs := #[.int .i64 0, .string (⟨#[]⟩ : ByteArray), .string (⟨#[]⟩ : ByteArray), .int .i64 0, .int .i64 0]) ?_ 3 _ rfl; (with_reducible repeat (first | refine blk_drewN ?_ _ | refine blk_drew ?_ | refine blk_alloc ?_ _)); refine blk_put (cs := #[.int .i64 0, .string (⟨#[]⟩ : ByteArray), .string (⟨#[]⟩ : ByteArray), .int .i64 0, .int .i64 0]) ?_ 2 _ rfl; (with_reducible repeat (first | refine blk_drewN ?_ _ | refine blk_drew ?_ | refine blk_alloc ?_ _)); refine blk_put (cs := #[.int .i64 0, .string (⟨#[]⟩ : ByteArray), .string (⟨#[]⟩ : ByteArray), .int .i64 0, .int .i64 0]) ?_ 1 _ rfl; (with_reducible repeat (first | refine blk_drewN ?_ _ | refine blk_drew ?_ | refine blk_alloc ?_ _)); refine blk_put (cs := #[.int .i64 0, .string (⟨#[]⟩ : ByteArray), .string (⟨#[]⟩ : ByteArray), .int .i64 0, .int .i64 0]) ?_ 0 _ rfl; (with_reducible repeat (first | refine blk_drewN ?_ _ | refine blk_drew ?_ | refine blk_alloc ?_ _)); exact BK911.out) Try.underlying36 rfl (by kernel_rfl)) rfl ?_
    exact ⟨by first | rfl | (simp [errW_none, errW_some] <;> rfl) | (simp [*, errW_none, errW_some] <;> rfl), by repeat (first | (with_reducible first | exact HB.out | apply below_alloc | apply pw_below_drewN | apply below_drew1 | refine below_set ?_ GE910.out | refine below_set ?_ GE911.out) | exact HB.out)⟩
  · rw [if_neg c3] at H
    have c3b0 : decide (a1 < a0_0) = false := decide_eq_false c3
    clear c3
    have H' := Aside0.mk H
    clear H
    go_enter Try.func31, Try.ntmps31
    go_wp2_with (first | ((with_reducible refine gate_dst (N := 2) rfl ?_); refine box_event ?hg (N := 2) ?hd (cs := #[.int .i64 a0_0, .int .i64 a0_1, .slice A0_2 l0_2.length c0_2]) (t := 41) ?hr ?_; (case hd => rfl); (case hg => rfl); (case hr => first | (go_simp; done) | (go_simp; rfl)); intro gb910 hg w9 hbox hb; have n0_ := Aside0.mk (below_step (by repeat (first | (with_reducible first | exact HB.out | apply below_alloc | apply pw_below_drewN | apply below_drew1) | exact HB.out)) hb); have n1_ := Aside0.mk (hbox); have n2_ := Aside0.mk ((by rw [hg]; exact (below_size (by repeat (first | (with_reducible first | exact HB.out | apply below_alloc | apply pw_below_drewN | apply below_drew1) | exact HB.out))) : w.heap.size ≤ gb910)); have n3_ := Aside0.mk ((by rw [hg]; exact (below_size (by repeat (first | (with_reducible first | exact HB.out | apply below_alloc | apply pw_below_drewN | apply below_drew1) | exact HB.out))) : w.heap.size ≤ gb910)); clear HB; have HB := n0_; have BK910 := n1_; have GW910 := n2_; have GE910 := n3_; clear n0_ n1_ n2_ n3_; clear hb hbox hg) | ((with_reducible refine gate_dst (N := 4) rfl ?_); refine box_event ?hg (N := 4) ?hd (cs := #[.int .i64 0, .string (⟨#[]⟩ : ByteArray), .string (⟨#[]⟩ : ByteArray), .int .i64 0, .int .i64 0]) (t := 36) ?hr ?_; (case hd => rfl); (case hg => rfl); (case hr => first | (go_simp; done) | (go_simp; rfl)); intro gb911 hg w10 hbox hb; have n0_ := Aside0.mk (blk_below (g := gb910) (o := .cells #[.int .i64 a0_0, .int .i64 a0_1, .slice A0_2 l0_2.length c0_2] 41 (0, 0)) (by (with_reducible repeat (first | refine blk_drewN ?_ _ | refine blk_drew ?_ | refine blk_alloc ?_ _)); exact BK910.out) hb); have n1_ := Aside0.mk (below_step (by repeat (first | (with_reducible first | exact HB.out | apply below_alloc | apply pw_below_drewN | apply below_drew1 | refine below_set ?_ GE910.out) | exact HB.out)) hb); have n2_ := Aside0.mk (hbox); have n3_ := Aside0.mk ((by rw [hg]; exact (below_size (by repeat (first | (with_reducible first | exact HB.out | apply below_alloc | apply pw_below_drewN | apply below_drew1 | refine below_set ?_ GE910.out) | exact HB.out))) : w.heap.size ≤ gb911)); have n4_ := Aside0.mk ((by rw [hg]; exact (below_size (by repeat (first | (with_reducible first | exact HB.out | apply below_alloc | apply pw_below_drewN | apply below_drew1 | refine below_set ?_ GE910.out) | exact HB.out))) : w.heap.size ≤ gb911)); have n5_ := Aside0.mk ((by rw [hg]; exact Nat.ne_of_lt (blk_lt (g := gb910) (o := .cells #[.int .i64 a0_0, .int .i64 a0_1, .slice A0_2 l0_2.length c0_2] 41 (0, 0)) (by (with_reducible repeat (first | refine blk_drewN ?_ _ | refine blk_drew ?_ | refine blk_alloc ?_ _)); exact BK910.out)) : gb910 ≠ gb911)); have n6_ := Aside0.mk ((by rw [hg]; exact Nat.ne_of_gt (blk_lt (g := gb910) (o := .cells #[.int .i64 a0_0, .int .i64 a0_1, .slice A0_2 l0_2.length c0_2] 41 (0, 0)) (by (with_reducible repeat (first | refine blk_drewN ?_ _ | refine blk_drew ?_ | refine blk_alloc ?_ _)); exact BK910.out)) : gb911 ≠ gb910)); clear BK910; clear HB; have BK910 := n0_; have HB := n1_; have BK911 := n2_; have GW911 := n3_; have GE911 := n4_; have NB910_911 := n5_; have NB911_910 := n6_; clear n0_ n1_ n2_ n3_ n4_ n5_ n6_; clear hb hbox hg; have hnb11 := NB910_911.out; have hnc11 := NB911_910.out; have hcz12_0 : w10.cell? ⟨gb910, 0, none⟩ = some (.int .i64 a0_0) := (blk_cell BK910.out 0).trans rfl; have hcz12_1 : w10.cell? ⟨gb910, 1, none⟩ = some (.int .i64 a0_1) := (blk_cell BK910.out 1).trans rfl; have hcz12_2 : w10.cell? ⟨gb910, 2, none⟩ = some (.slice A0_2 l0_2.length c0_2) := (blk_cell BK910.out 2).trans rfl; have hfz12_0 := blk_frozen BK910.out 0; have hfz12_1 := blk_frozen BK910.out 1; have hfz12_2 := blk_frozen BK910.out 2))
    go_loopg [6] k (fun kq v6 w' => ∃ (x6_1 : Int) (x912000_1 : Int) (x912001_1 : ByteArray) (x912002_1 : ByteArray) (x912003_1 : Int) (x912004_1 : Int), v6 = .int .i64 x6_1 ∧ Aside0 (spec_RowGet.l0 kq a1 x6_1 a0_0 a0_1 l0_2 = some (r1, r2, r3, r4, r5, r6)) ∧ Aside0 (kq ≤ k) ∧ Aside0 (w'.heap[gb910]? = some (.cells #[.int .i64 a0_0, .int .i64 a0_1, (.slice A0_2 l0_2.length c0_2)] 41 (0, 0))) ∧ Aside0 (w'.heap[gb911]? = some (.cells #[.int .i64 x912000_1, .string x912001_1, .string x912002_1, .int .i64 x912003_1, .int .i64 x912004_1] 36 (0, 0))) ∧ Aside0 (Below w.heap.size w w'))
    case atStart => exact ⟨(0), (0), ((⟨#[]⟩ : ByteArray)), ((⟨#[]⟩ : ByteArray)), (0), (0), (by first | rfl | (simp; done) | (simp [*]; done)), H', ⟨Nat.le_refl _⟩, ⟨by (with_reducible repeat (first | refine blk_drewN ?_ _ | refine blk_drew ?_ | refine blk_alloc ?_ _)); exact BK910.out⟩, ⟨by (with_reducible repeat (first | refine blk_drewN ?_ _ | refine blk_drew ?_ | refine blk_alloc ?_ _)); exact BK911.out⟩, ⟨by repeat (first | (with_reducible first | exact HB.out | apply below_alloc | apply pw_below_drewN | apply below_drew1 | refine below_set ?_ GE910.out | refine below_set ?_ GE911.out) | exact HB.out)⟩⟩
    case round =>
      clear H'
      try clear c1
      try clear p2
      try clear c3
      try clear c3b0
      try clear c6
      try clear c11
      try clear hcz12_0
      try clear hcz12_1
      try clear hcz12_2
      try clear hcz7_0
      try clear hcz7_1
      try clear hcz7_2
      try clear hcz8_0
      try clear hcz8_1
      try clear hcz8_2
      try clear hcz8_3
      try clear hcz8_4
      try clear hfz12_0
      try clear hfz12_1
      try clear hfz12_2
      try clear hfz7_0
      try clear hfz7_1
      try clear hfz7_2
      try clear hfz8_0
      try clear hfz8_1
      try clear hfz8_2
      try clear hfz8_3
      try clear hfz8_4
      obtain ⟨x6_1, x912000_1, x912001_1, x912002_1, x912003_1, x912004_1, rfl, HA, HK1, BK910, BK911, HB⟩ := hrel
      cases gk with
      | zero => exact absurd HA.out (by simp [spec_RowGet.l0])
      | succ k1 =>
        have H := HA.out
        clear HA
        simp only [spec_RowGet.l0] at H
        by_cases c13 : x6_1 < (l0_2.length : Int)
        · rw [if_pos c13] at H
          have c13b0 : decide (x6_1 < (l0_2.length : Int)) = true := decide_eq_true c13
          clear c13
          by_cases c14 : 0 ≤ x6_1
          · rw [if_pos c14] at H
            have c14b0 : decide (0 ≤ x6_1) = true := decide_eq_true c14
            clear c14
            by_cases c15 : ((rd_Item l0_2 x6_1).f0) ≥ a1
            · rw [if_pos c15] at H
              have c15b0 : decide (a1 ≤ ((rd_Item l0_2 x6_1).f0)) = true := decide_eq_true c15
              clear c15
              simp only [Option.some.injEq, Prod.mk.injEq] at H
              obtain ⟨rfl, rfl, rfl, rfl, rfl, rfl⟩ := H
              have hnb16 := NB910_911.out
              have hnc16 := NB911_910.out
              have hcz17_0 : wr.cell? ⟨gb910, 0, none⟩ = some (.int .i64 a0_0) := (blk_cell BK910.out 0).trans rfl
              have hcz17_1 : wr.cell? ⟨gb910, 1, none⟩ = some (.int .i64 a0_1) := (blk_cell BK910.out 1).trans rfl
              have hcz17_2 : wr.cell? ⟨gb910, 2, none⟩ = some (.slice A0_2 l0_2.length c0_2) := (blk_cell BK910.out 2).trans rfl
              have hfz17_0 := blk_frozen BK910.out 0
              have hfz17_1 := blk_frozen BK910.out 1
              have hfz17_2 := blk_frozen BK910.out 2
              have p912 : 0 ≤ (x6_1 : Int) := of_decide_eq_true (by first | (with_reducible assumption) | assumption)
              have q912 : x6_1 < (l0_2.length : Int) := of_decide_eq_true (by first | (with_reducible assumption) | assumption)
              obtain ⟨ad912, e912, hx912_0, hx912_1, hx912_2, hx912_3, hx912_4⟩ := at_Item HR0_2.out x6_1 p912 q912
              cases e912
              replace hx912_0 := (HB.out.cell (World.block_lt_of_cell? w _ hx912_0)).trans hx912_0
              replace hx912_1 := (HB.out.cell (World.block_lt_of_cell? w _ hx912_1)).trans hx912_1
              replace hx912_2 := (HB.out.cell (World.block_lt_of_cell? w _ hx912_2)).trans hx912_2
              replace hx912_3 := (HB.out.cell (World.block_lt_of_cell? w _ hx912_3)).trans hx912_3
              replace hx912_4 := (HB.out.cell (World.block_lt_of_cell? w _ hx912_4)).trans hx912_4
              replace p912 := eq_true p912
              replace q912 := eq_true q912
              have p913 : 0 ≤ (x6_1 : Int) := of_decide_eq_true (by first | (with_reducible assumption) | assumption)
              have q913 : x6_1 < (l0_2.length : Int) := of_decide_eq_true (by first | (with_reducible assumption) | assumption)
              obtain ⟨ad913, e913, hx913_0, hx913_1, hx913_2, hx913_3, hx913_4⟩ := at_Item HR0_2.out x6_1 p913 q913
              obtain rfl : ad912 = ad913 := (by injection e913)
              replace hx913_0 := (HB.out.cell (World.block_lt_of_cell? w _ hx913_0)).trans hx913_0
              replace hx913_1 := (HB.out.cell (World.block_lt_of_cell? w _ hx913_1)).trans hx913_1
              replace hx913_2 := (HB.out.cell (World.block_lt_of_cell? w _ hx913_2)).trans hx913_2
              replace hx913_3 := (HB.out.cell (World.block_lt_of_cell? w _ hx913_3)).trans hx913_3
              replace hx913_4 := (HB.out.cell (World.block_lt_of_cell? w _ hx913_4)).trans hx913_4
              replace p913 := eq_true p913
              replace q913 := eq_true q913
              have hcz18_0 : wr.cell? ⟨gb911, 0, none⟩ = some (.int .i64 x912000_1) := (blk_cell BK911.out 0).trans rfl
              have hcz18_1 : wr.cell? ⟨gb911, 1, none⟩ = some (.string x912001_1) := (blk_cell BK911.out 1).trans rfl
              have hcz18_2 : wr.cell? ⟨gb911, 2, none⟩ = some (.string x912002_1) := (blk_cell BK911.out 2).trans rfl
              have hcz18_3 : wr.cell? ⟨gb911, 3, none⟩ = some (.int .i64 x912003_1) := (blk_cell BK911.out 3).trans rfl
              have hcz18_4 : wr.cell? ⟨gb911, 4, none⟩ = some (.int .i64 x912004_1) := (blk_cell BK911.out 4).trans rfl
              have hfz18_0 := blk_frozen BK911.out 0
              have hfz18_1 := blk_frozen BK911.out 1
              have hfz18_2 := blk_frozen BK911.out 2
              have hfz18_3 := blk_frozen BK911.out 3
              have hfz18_4 := blk_frozen BK911.out 4
              go_wp2
              refine bodyPost_ret (results_ct rfl _ _ gb911 36 #[.int .i64 ((rd_Item l0_2 x6_1).f0), .string ((rd_Item l0_2 x6_1).f1), .string ((rd_Item l0_2 x6_1).f2), .int .i64 ((rd_Item l0_2 x6_1).f3), .int .i64 ((rd_Item l0_2 x6_1).f4)] (0, 0) _ rfl (by (with_reducible repeat (first | refine blk_drewN ?_ _ | refine blk_drew ?_ | refine blk_alloc ?_ _)); refine blk_put (cs := #[.int .i64 ((rd_Item l0_2 x6_1).f0), .string ((rd_Item l0_2 x6_1).f1), .string ((rd_Item l0_2 x6_1).f2), .int .i64 ((rd_Item l0_2 x6_1).f3), .int .i64 x912004_1]) ?_ 4 _ rfl; (with_reducible repeat (first | refine blk_drewN ?_ _ | refine blk_drew ?_ | refine blk_alloc ?_ _)); refine blk_put (cs := #[.int .i64 ((rd_Item l0_2 x6_1).f0), .string ((rd_Item l0_2 x6_1).f1), .string ((rd_Item l0_2 x6_1).f2), .int .i64 x912003_1, .int .i64 x912004_1]) ?_ 3 _ rfl; (with_reducible repeat (first | refine blk_drewN ?_ _ | refine blk_drew ?_ | refine blk_alloc ?_ _)); refine blk_put (cs := #[.int .i64 ((rd_Item l0_2 x6_1).f0), .string ((rd_Item l0_2 x6_1).f1), .string x912002_1, .int .i64 x912003_1, .int .i64 x912004_1]) ?_ 2 _ rfl; (with_reducible repeat (first | refine blk_drewN ?_ _ | refine blk_drew ?_ | refine blk_alloc ?_ _)); refine blk_put (cs := #[.int .i64 ((rd_Item l0_2 x6_1).f0), .string x912001_1, .string x912002_1, .int .i64 x912003_1, .int .i64 x912004_1]) ?_ 1 _ rfl; (with_reducible repeat (first | refine blk_drewN ?_ _ | refine blk_drew ?_ | refine blk_alloc ?_ _)); refine blk_put (cs := #[.int .i64 x912000_1, .string x912001_1, .string x912002_1, .int .i64 x912003_1, .int .i64 x912004_1]) ?_ 0 _ rfl; (with_reducible repeat (first | refine blk_drewN ?_ _ | refine blk_drew ?_ | refine blk_alloc ?_ _)); exact BK911.out) Try.underlying36 rfl (by kernel_rfl)) rfl ?_
              exact ⟨by first | rfl | (simp [errW_none, errW_some] <;> rfl) | (simp [*, errW_none, errW_some] <;> rfl), by repeat (first | (with_reducible first | exact HB.out | apply below_alloc | apply pw_below_drewN | apply below_drew1 | refine below_set ?_ GE910.out | refine below_set ?_ GE911.out) | exact HB.out)⟩
            · rw [if_neg c15] at H
              have c15b0 : decide (a1 ≤ ((rd_Item l0_2 x6_1).f0)) = false := decide_eq_false c15
              clear c15
              have H' := Aside0.mk H
              clear H
              have hnb19 := NB910_911.out
              have hnc19 := NB911_910.out
              have hcz20_0 : wr.cell? ⟨gb910, 0, none⟩ = some (.int .i64 a0_0) := (blk_cell BK910.out 0).trans rfl
              have hcz20_1 : wr.cell? ⟨gb910, 1, none⟩ = some (.int .i64 a0_1) := (blk_cell BK910.out 1).trans rfl
              have hcz20_2 : wr.cell? ⟨gb910, 2, none⟩ = some (.slice A0_2 l0_2.length c0_2) := (blk_cell BK910.out 2).trans rfl
              have hfz20_0 := blk_frozen BK910.out 0
              have hfz20_1 := blk_frozen BK910.out 1
              have hfz20_2 := blk_frozen BK910.out 2
              have p912 : 0 ≤ (x6_1 : Int) := of_decide_eq_true (by first | (with_reducible assumption) | assumption)
              have q912 : x6_1 < (l0_2.length : Int) := of_decide_eq_true (by first | (with_reducible assumption) | assumption)
              obtain ⟨ad912, e912, hx912_0, hx912_1, hx912_2, hx912_3, hx912_4⟩ := at_Item HR0_2.out x6_1 p912 q912
              cases e912
              replace hx912_0 := (HB.out.cell (World.block_lt_of_cell? w _ hx912_0)).trans hx912_0
              replace hx912_1 := (HB.out.cell (World.block_lt_of_cell? w _ hx912_1)).trans hx912_1
              replace hx912_2 := (HB.out.cell (World.block_lt_of_cell? w _ hx912_2)).trans hx912_2
              replace hx912_3 := (HB.out.cell (World.block_lt_of_cell? w _ hx912_3)).trans hx912_3
              replace hx912_4 := (HB.out.cell (World.block_lt_of_cell? w _ hx912_4)).trans hx912_4
              replace p912 := eq_true p912
              replace q912 := eq_true q912
              go_wp2
              go_roundg k1
              case measure => have := HK1.out; omega
              case rel => exact ⟨(wrap64 (x6_1 + 1)), (x912000_1), (x912001_1), (x912002_1), (x912003_1), (x912004_1), (by first | rfl | (simp; done) | (simp [*]; done)), H', ⟨by have := HK1.out; omega⟩, ⟨by (with_reducible repeat (first | refine blk_drewN ?_ _ | refine blk_drew ?_ | refine blk_alloc ?_ _)); exact BK910.out⟩, ⟨by (with_reducible repeat (first | refine blk_drewN ?_ _ | refine blk_drew ?_ | refine blk_alloc ?_ _)); exact BK911.out⟩, ⟨by repeat (first | (with_reducible first | exact HB.out | apply below_alloc | apply pw_below_drewN | apply below_drew1 | refine below_set ?_ GE910.out | refine below_set ?_ GE911.out) | exact HB.out)⟩⟩
          · rw [if_neg c14] at H
            exact absurd H (by simp)
        · rw [if_neg c13] at H
          have c13b0 : decide (x6_1 < (l0_2.length : Int)) = false := decide_eq_false c13
          clear c13
          simp only [Option.some.injEq, Prod.mk.injEq] at H
          obtain ⟨rfl, rfl, rfl, rfl, rfl, rfl⟩ := H
          have hnb21 := NB910_911.out
          have hnc21 := NB911_910.out
          have hcz22_0 : wr.cell? ⟨gb910, 0, none⟩ = some (.int .i64 a0_0) := (blk_cell BK910.out 0).trans rfl
          have hcz22_1 : wr.cell? ⟨gb910, 1, none⟩ = some (.int .i64 a0_1) := (blk_cell BK910.out 1).trans rfl
          have hcz22_2 : wr.cell? ⟨gb910, 2, none⟩ = some (.slice A0_2 l0_2.length c0_2) := (blk_cell BK910.out 2).trans rfl
          have hfz22_0 := blk_frozen BK910.out 0
          have hfz22_1 := blk_frozen BK910.out 1
          have hfz22_2 := blk_frozen BK910.out 2
          have hcz23_0 : wr.cell? ⟨gb911, 0, none⟩ = some (.int .i64 x912000_1) := (blk_cell BK911.out 0).trans rfl
          have hcz23_1 : wr.cell? ⟨gb911, 1, none⟩ = some (.string x912001_1) := (blk_cell BK911.out 1).trans rfl
          have hcz23_2 : wr.cell? ⟨gb911, 2, none⟩ = some (.string x912002_1) := (blk_cell BK911.out 2).trans rfl
          have hcz23_3 : wr.cell? ⟨gb911, 3, none⟩ = some (.int .i64 x912003_1) := (blk_cell BK911.out 3).trans rfl
          have hcz23_4 : wr.cell? ⟨gb911, 4, none⟩ = some (.int .i64 x912004_1) := (blk_cell BK911.out 4).trans rfl
          have hfz23_0 := blk_frozen BK911.out 0
          have hfz23_1 := blk_frozen BK911.out 1
          have hfz23_2 := blk_frozen BK911.out 2
          have hfz23_3 := blk_frozen BK911.out 3
          have hfz23_4 := blk_frozen BK911.out 4
          go_wp2
          refine bodyPost_ret (results_ct rfl _ _ gb911 36 #[.int .i64 0, .string (⟨#[]⟩ : ByteArray), .string (⟨#[]⟩ : ByteArray), .int .i64 0, .int .i64 0] (0, 0) _ rfl (by (with_reducible repeat (first | refine blk_drewN ?_ _ | refine blk_drew ?_ | refine blk_alloc ?_ _)); refine blk_put (cs := #[.int .i64 0, .string (⟨#[]⟩ : ByteArray), .string (⟨#[]⟩ : ByteArray), .int .i64 0, .int .i64 x912004_1]) ?_ 4 _ rfl; (with_reducible repeat (first | refine blk_drewN ?_ _ | refine blk_drew ?_ | refine blk_alloc ?_ _)); refine blk_put (cs := #[.int .i64 0, .string (⟨#[]⟩ : ByteArray), .string (⟨#[]⟩ : ByteArray), .int .i64 x912003_1, .int .i64 x912004_1]) ?_ 3 _ rfl; (with_reducible repeat (first | refine blk_drewN ?_ _ | refine blk_drew ?_ | refine blk_alloc ?_ _)); refine blk_put (cs := #[.int .i64 0, .string (⟨#[]⟩ : ByteArray), .string x912002_1, .int .i64 x912003_1, .int .i64 x912004_1]) ?_ 2 _ rfl; (with_reducible repeat (first | refine blk_drewN ?_ _ | refine blk_drew ?_ | refine blk_alloc ?_ _)); refine blk_put (cs := #[.int .i64 0, .string x912001_1, .string x912002_1, .int .i64 x912003_1, .int .i64 x912004_1]) ?_ 1 _ rfl; (with_reducible repeat (first | refine blk_drewN ?_ _ | refine blk_drew ?_ | refine blk_alloc ?_ _)); refine blk_put (cs := #[.int .i64 x912000_1, .string x912001_1, .string x912002_1, .int .i64 x912003_1, .int .i64 x912004_1]) ?_ 0 _ rfl; (with_reducible repeat (first | refine blk_drewN ?_ _ | refine blk_drew ?_ | refine blk_alloc ?_ _)); exact BK911.out) Try.underlying36 rfl (by kernel_rfl)) rfl ?_
          exact ⟨by first | rfl | (simp [errW_none, errW_some] <;> rfl) | (simp [*, errW_none, errW_some] <;> rfl), by repeat (first | (with_reducible first | exact HB.out | apply below_alloc | apply pw_below_drewN | apply below_drew1 | refine below_set ?_ GE910.out | refine below_set ?_ GE911.out) | exact HB.out)⟩

end Go.Proofs.Ytgkeapbeogmfjaa.Q
