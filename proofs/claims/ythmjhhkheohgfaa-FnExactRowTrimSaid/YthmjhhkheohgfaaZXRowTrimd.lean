/- Made by a program of ours out of the print of the loaded functions: for each of some functions a plain function, and the walk that shows that a call comes to what it says. No condition but those of each theorem. -/
import Derived.Test.YthmjhhkheohgfaaZXRowTrim0
import Derived.Test.YthmjhhkheohgfaaZXRowTrima
import Derived.Test.YthmjhhkheohgfaaZXRowTrimb
import Derived.Test.YthmjhhkheohgfaaZXRowTrimc
namespace Go.Proofs.Ythmjhhkheohgfaa.Q
open Go.RowKit Go.Proofs.YthmjhhkheohgfaaW.PrintWords Go.Proofs.YthmjhhkheohgfaaW.PrintLast Go.Proofs.YthmjhhkheohgfaaW.PrintMore
attribute [local go_sem] max2_int min2_int max_two min_two max_three min_three max_four min_four   -- for this text's walks alone
set_option linter.unusedVariables false
set_option linter.unusedSimpArgs false

/-! ### laws_szItemS: function 68 -/
def laws_szItemS.l0 : Nat → List (S_LItem) → Int → Int → Option (Int)
  | 0, _, _, _ => none
  | k + 1, x0, x1, x5 => if x5 < (x0.length : Int) then (if 0 ≤ x5 then ((laws_szItem.f ((rd_LItem x0 x5).f0) ((rd_LItem x0 x5).f1) ((rd_LItem x0 x5).f2) ((rd_LItem x0 x5).f3) ((rd_LItem x0 x5).f4) x1).bind fun t619 => (if t619 < 0 then (some (-1)) else (laws_szItemS.l0 k x0 t619 (wrap64 (x5 + 1))))) else (none)) else (some x1)
def laws_szItemS.f (k : Nat) (l0 : List (S_LItem)) (a1 : Int) : Option (Int) := if (wrap64 (a1 - (l0.length : Int))) < 0 then (some (-1)) else (laws_szItemS.l0 k l0 (wrap64 (a1 - (l0.length : Int))) 0)
theorem laws_szItemS.mono_l : ∀ k, (∀ y0 y1 y2, LeO (laws_szItemS.l0 k y0 y1 y2) (laws_szItemS.l0 (k + 1) y0 y1 y2))
  | 0 => fun _ _ _ r h => by simp [laws_szItemS.l0] at h
  | k + 1 => by
    have ih0 := laws_szItemS.mono_l k
    · intro y0 y1 y2
      unfold laws_szItemS.l0
      repeat' first
      | (with_reducible exact ih0 _ _ _)
      | (with_reducible exact LeO.refl _)
      | (with_reducible exact LeO.none _)
      | (with_reducible refine LeO.ite ?_ ?_)
      | (with_reducible refine LeO.bind ?_ (fun _ => ?_))
      | exact ih0 _ _ _
      | exact LeO.none _
      | refine LeO.ite ?_ ?_
      | refine LeO.bind ?_ (fun _ => ?_)
theorem laws_szItemS.mono : ∀ a0 a1 k, LeO (laws_szItemS.f k a0 a1) (laws_szItemS.f (k + 1) a0 a1) := by
  intro a0 a1 k
  have ih0 := laws_szItemS.mono_l k
  unfold laws_szItemS.f
  repeat' first
      | (with_reducible exact ih0 _ _ _)
      | (with_reducible exact LeO.refl _)
      | (with_reducible exact LeO.none _)
      | (with_reducible refine LeO.ite ?_ ?_)
      | (with_reducible refine LeO.bind ?_ (fun _ => ?_))
      | exact ih0 _ _ _
      | exact LeO.none _
      | refine LeO.ite ?_ ?_
      | refine LeO.bind ?_ (fun _ => ?_)
set_option maxHeartbeats 8000000 in
set_option maxRecDepth 100000 in
theorem laws_szItemS.calls (k : Nat) (A0 : Option Addr) (c0 : Nat) (l0 : List (S_LItem)) (a1 : Int) (r : Int) (w : World) (hr0 : Kd.C k_LItem w A0 l0.length l0) (hc0 : l0.length ≤ c0) (h : laws_szItemS.f k l0 a1 = some r) :
    Calls Try.prog 68 #[.slice A0 l0.length c0, .int .i64 a1] w fun e w' => e = .returned (.int .i64 r) ∧ Below w.heap.size w w' := by
  have hu136 := Try.underlying136
  have HR0 := Aside0.mk hr0
  have HC0 := Aside0.mk hc0
  clear hr0 hc0
  have HB := Aside0.mk (Below.refl w.heap.size w)
  have H : (if (wrap64 (a1 - (l0.length : Int))) < 0 then (some (-1)) else (laws_szItemS.l0 k l0 (wrap64 (a1 - (l0.length : Int))) 0)) = some r := h
  clear h
  by_cases c3 : (wrap64 (a1 - (l0.length : Int))) < 0
  · rw [if_pos c3] at H
    have c3b0 : decide ((wrap64 (a1 - (l0.length : Int))) < 0) = true := decide_eq_true c3
    clear c3
    obtain rfl := Option.some.inj H
    go_enter Try.func68, Try.ntmps68
    go_wp2
    go_ret
    exact ⟨by first | rfl | (simp [errW_none, errW_some] <;> rfl) | (simp [*, errW_none, errW_some] <;> rfl), by repeat (first | (with_reducible first | exact HB.out | apply below_alloc | apply pw_below_drewN | apply below_drew1) | exact HB.out)⟩
  · rw [if_neg c3] at H
    have c3b0 : decide ((wrap64 (a1 - (l0.length : Int))) < 0) = false := decide_eq_false c3
    clear c3
    have H' := Aside0.mk H
    clear H
    go_enter Try.func68, Try.ntmps68
    go_wp2
    go_loopg [1, 5] k (fun kq v1 v5 w' => ∃ (x1_1 : Int) (x5_1 : Int), v1 = .int .i64 x1_1 ∧ v5 = .int .i64 x5_1 ∧ Aside0 (laws_szItemS.l0 kq l0 x1_1 x5_1 = some r) ∧ Aside0 (kq ≤ k) ∧ Aside0 (Below w.heap.size w w'))
    case atStart => exact ⟨(wrap64 (a1 - (l0.length : Int))), (0), (by first | rfl | (simp; done) | (simp [*]; done)), (by first | rfl | (simp; done) | (simp [*]; done)), H', ⟨Nat.le_refl _⟩, ⟨by repeat (first | (with_reducible first | exact HB.out | apply below_alloc | apply pw_below_drewN | apply below_drew1) | exact HB.out)⟩⟩
    case round =>
      clear H'
      try clear p2
      try clear c3
      try clear c3b0
      obtain ⟨x1_1, x5_1, rfl, rfl, HA, HK1, HB⟩ := hrel
      cases gk with
      | zero => exact absurd HA.out (by simp [laws_szItemS.l0])
      | succ k1 =>
        have H := HA.out
        clear HA
        simp only [laws_szItemS.l0] at H
        by_cases c4 : x5_1 < (l0.length : Int)
        · rw [if_pos c4] at H
          have c4b0 : decide (x5_1 < (l0.length : Int)) = true := decide_eq_true c4
          clear c4
          by_cases c5 : 0 ≤ x5_1
          · rw [if_pos c5] at H
            have c5b0 : decide (0 ≤ x5_1) = true := decide_eq_true c5
            clear c5
            replace H := Option.bind_eq_some_iff.mp H
            obtain ⟨t619, A60, H⟩ := H
            replace H : (if t619 < 0 then (some (-1)) else (laws_szItemS.l0 k1 l0 t619 (wrap64 (x5_1 + 1)))) = some r := H
            have A6 := Aside0.mk A60
            clear A60
            by_cases c7 : t619 < 0
            · rw [if_pos c7] at H
              have c7b0 : decide (t619 < 0) = true := decide_eq_true c7
              clear c7
              obtain rfl := Option.some.inj H
              have p618 : 0 ≤ (x5_1 : Int) := of_decide_eq_true (by first | (with_reducible assumption) | assumption)
              have q618 : x5_1 < (l0.length : Int) := of_decide_eq_true (by first | (with_reducible assumption) | assumption)
              obtain ⟨ad618, e618, hx618_0, hx618_1, hx618_2, hx618_3, hx618_4⟩ := at_LItem HR0.out x5_1 p618 q618
              cases e618
              replace hx618_0 := (HB.out.cell (World.block_lt_of_cell? w _ hx618_0)).trans hx618_0
              replace hx618_1 := (HB.out.cell (World.block_lt_of_cell? w _ hx618_1)).trans hx618_1
              replace hx618_2 := (HB.out.cell (World.block_lt_of_cell? w _ hx618_2)).trans hx618_2
              replace hx618_3 := (HB.out.cell (World.block_lt_of_cell? w _ hx618_3)).trans hx618_3
              replace hx618_4 := (HB.out.cell (World.block_lt_of_cell? w _ hx618_4)).trans hx618_4
              replace p618 := eq_true p618
              replace q618 := eq_true q618
              go_wp2_with (first | ((with_reducible refine gate_callee (f := 103) rfl ?_); refine goesL_ (some 23) rfl rfl Try.func103 (by kernel_rfl) rfl #[.agg #[.int .i64 ((rd_LItem l0 x5_1).f0), .string ((rd_LItem l0 x5_1).f1), .string ((rd_LItem l0 x5_1).f2), .int .i64 ((rd_LItem l0 x5_1).f3), .int .i64 ((rd_LItem l0 x5_1).f4)], .int .i64 x1_1] rfl (by (try simp only [List.map_toArray, List.map_cons, List.map_nil]); first | done | rfl | (simp only [List.length_drop, List.length_take]; rfl)) ?_; (with_reducible refine (laws_szItem.calls ((rd_LItem l0 x5_1).f0) ((rd_LItem l0 x5_1).f1) ((rd_LItem l0 x5_1).f2) ((rd_LItem l0 x5_1).f3) ((rd_LItem l0 x5_1).f4) x1_1 t619 _ A6.out).mono ?_); rintro e w8 ⟨rfl, hb⟩; refine ⟨_, rfl, ?_⟩; have n0_ := Aside0.mk (below_step (by repeat (first | (with_reducible first | exact HB.out | apply below_alloc | apply pw_below_drewN | apply below_drew1) | exact HB.out)) hb); clear HB; have HB := n0_; clear n0_; (try clear hb); (try clear hb2); (try clear hk); (try clear hi)))
              go_ret
              exact ⟨by first | rfl | (simp [errW_none, errW_some] <;> rfl) | (simp [*, errW_none, errW_some] <;> rfl), by repeat (first | (with_reducible first | exact HB.out | apply below_alloc | apply pw_below_drewN | apply below_drew1) | exact HB.out)⟩
            · rw [if_neg c7] at H
              have c7b0 : decide (t619 < 0) = false := decide_eq_false c7
              clear c7
              have H' := Aside0.mk H
              clear H
              have p618 : 0 ≤ (x5_1 : Int) := of_decide_eq_true (by first | (with_reducible assumption) | assumption)
              have q618 : x5_1 < (l0.length : Int) := of_decide_eq_true (by first | (with_reducible assumption) | assumption)
              obtain ⟨ad618, e618, hx618_0, hx618_1, hx618_2, hx618_3, hx618_4⟩ := at_LItem HR0.out x5_1 p618 q618
              cases e618
              replace hx618_0 := (HB.out.cell (World.block_lt_of_cell? w _ hx618_0)).trans hx618_0
              replace hx618_1 := (HB.out.cell (World.block_lt_of_cell? w _ hx618_1)).trans hx618_1
              replace hx618_2 := (HB.out.cell (World.block_lt_of_cell? w _ hx618_2)).trans hx618_2
              replace hx618_3 := (HB.out.cell (World.block_lt_of_cell? w _ hx618_3)).trans hx618_3
              replace hx618_4 := (HB.out.cell (World.block_lt_of_cell? w _ hx618_4)).trans hx618_4
              replace p618 := eq_true p618
              replace q618 := eq_true q618
              go_wp2_with (first | ((with_reducible refine gate_callee (f := 103) rfl ?_); refine goesL_ (some 23) rfl rfl Try.func103 (by kernel_rfl) rfl #[.agg #[.int .i64 ((rd_LItem l0 x5_1).f0), .string ((rd_LItem l0 x5_1).f1), .string ((rd_LItem l0 x5_1).f2), .int .i64 ((rd_LItem l0 x5_1).f3), .int .i64 ((rd_LItem l0 x5_1).f4)], .int .i64 x1_1] rfl (by (try simp only [List.map_toArray, List.map_cons, List.map_nil]); first | done | rfl | (simp only [List.length_drop, List.length_take]; rfl)) ?_; (with_reducible refine (laws_szItem.calls ((rd_LItem l0 x5_1).f0) ((rd_LItem l0 x5_1).f1) ((rd_LItem l0 x5_1).f2) ((rd_LItem l0 x5_1).f3) ((rd_LItem l0 x5_1).f4) x1_1 t619 _ A6.out).mono ?_); rintro e w9 ⟨rfl, hb⟩; refine ⟨_, rfl, ?_⟩; have n0_ := Aside0.mk (below_step (by repeat (first | (with_reducible first | exact HB.out | apply below_alloc | apply pw_below_drewN | apply below_drew1) | exact HB.out)) hb); clear HB; have HB := n0_; clear n0_; (try clear hb); (try clear hb2); (try clear hk); (try clear hi)))
              go_roundg k1
              case measure => have := HK1.out; omega
              case rel => exact ⟨(t619), (wrap64 (x5_1 + 1)), (by first | rfl | (simp; done) | (simp [*]; done)), (by first | rfl | (simp; done) | (simp [*]; done)), H', ⟨by have := HK1.out; omega⟩, ⟨by repeat (first | (with_reducible first | exact HB.out | apply below_alloc | apply pw_below_drewN | apply below_drew1) | exact HB.out)⟩⟩
          · rw [if_neg c5] at H
            exact absurd H (by simp)
        · rw [if_neg c4] at H
          have c4b0 : decide (x5_1 < (l0.length : Int)) = false := decide_eq_false c4
          clear c4
          obtain rfl := Option.some.inj H
          go_wp2
          go_ret
          exact ⟨by first | rfl | (simp [errW_none, errW_some] <;> rfl) | (simp [*, errW_none, errW_some] <;> rfl), by repeat (first | (with_reducible first | exact HB.out | apply below_alloc | apply pw_below_drewN | apply below_drew1) | exact HB.out)⟩

/-! ### laws_szRow: function 29 -/
def laws_szRow.f (k : Nat) (a0_0 : Int) (a0_1 : Int) (l0_2 : List (S_LItem)) (a1 : Int) : Option (Int) := (laws_szItemS.f k l0_2 a1).bind fun t621 => (if t621 < 0 then (some (-1)) else (some t621))
theorem laws_szRow.mono : ∀ a0 a1 a2 a3 k, LeO (laws_szRow.f k a0 a1 a2 a3) (laws_szRow.f (k + 1) a0 a1 a2 a3) := by
  intro a0 a1 a2 a3 k
  unfold laws_szRow.f
  repeat' first
      | (with_reducible exact laws_szItemS.mono _ _ _)
      | (with_reducible exact LeO.refl _)
      | (with_reducible exact LeO.none _)
      | (with_reducible refine LeO.ite ?_ ?_)
      | (with_reducible refine LeO.bind ?_ (fun _ => ?_))
      | exact laws_szItemS.mono _ _ _
      | exact LeO.none _
      | refine LeO.ite ?_ ?_
      | refine LeO.bind ?_ (fun _ => ?_)
set_option maxHeartbeats 8000000 in
set_option maxRecDepth 100000 in
theorem laws_szRow.calls (k : Nat) (a0_0 : Int) (a0_1 : Int) (A0_2 : Option Addr) (c0_2 : Nat) (l0_2 : List (S_LItem)) (a1 : Int) (r : Int) (w : World) (hr0_2 : Kd.C k_LItem w A0_2 l0_2.length l0_2) (hc0_2 : l0_2.length ≤ c0_2) (h : laws_szRow.f k a0_0 a0_1 l0_2 a1 = some r) :
    Calls Try.prog 29 #[.agg #[.int .i64 a0_0, .int .i64 a0_1, .slice A0_2 l0_2.length c0_2], .int .i64 a1] w fun e w' => e = .returned (.int .i64 r) ∧ Below w.heap.size w w' := by
  have hu56 := Try.underlying56
  have HR0_2 := Aside0.mk hr0_2
  have HC0_2 := Aside0.mk hc0_2
  clear hr0_2 hc0_2
  have HB := Aside0.mk (Below.refl w.heap.size w)
  have H : ((laws_szItemS.f k l0_2 a1).bind fun t621 => (if t621 < 0 then (some (-1)) else (some t621))) = some r := h
  clear h
  replace H := Option.bind_eq_some_iff.mp H
  obtain ⟨t621, A30, H⟩ := H
  replace H : (if t621 < 0 then (some (-1)) else (some t621)) = some r := H
  have A3 := Aside0.mk A30
  clear A30
  by_cases c4 : t621 < 0
  · rw [if_pos c4] at H
    have c4b0 : decide (t621 < 0) = true := decide_eq_true c4
    clear c4
    obtain rfl := Option.some.inj H
    go_enter Try.func29, Try.ntmps29
    go_wp2_with (first | ((with_reducible refine gate_dst (N := 2) rfl ?_); refine box_event ?hg (N := 2) ?hd (cs := #[.int .i64 a0_0, .int .i64 a0_1, .slice A0_2 l0_2.length c0_2]) (t := 56) ?hr ?_; (case hd => rfl); (case hg => rfl); (case hr => first | (go_simp; done) | (go_simp; rfl)); intro gb620 hg w5 hbox hb; have n0_ := Aside0.mk (below_step (by repeat (first | (with_reducible first | exact HB.out | apply below_alloc | apply pw_below_drewN | apply below_drew1) | exact HB.out)) hb); have n1_ := Aside0.mk (hbox); have n2_ := Aside0.mk ((by rw [hg]; exact (below_size (by repeat (first | (with_reducible first | exact HB.out | apply below_alloc | apply pw_below_drewN | apply below_drew1) | exact HB.out))) : w.heap.size ≤ gb620)); have n3_ := Aside0.mk ((by rw [hg]; exact (below_size (by repeat (first | (with_reducible first | exact HB.out | apply below_alloc | apply pw_below_drewN | apply below_drew1) | exact HB.out))) : w.heap.size ≤ gb620)); clear HB; have HB := n0_; have BK620 := n1_; have GW620 := n2_; have GE620 := n3_; clear n0_ n1_ n2_ n3_; clear hb hbox hg; have hcz6_0 : w5.cell? ⟨gb620, 0, none⟩ = some (.int .i64 a0_0) := (blk_cell BK620.out 0).trans rfl; have hcz6_1 : w5.cell? ⟨gb620, 1, none⟩ = some (.int .i64 a0_1) := (blk_cell BK620.out 1).trans rfl; have hcz6_2 : w5.cell? ⟨gb620, 2, none⟩ = some (.slice A0_2 l0_2.length c0_2) := (blk_cell BK620.out 2).trans rfl; have hfz6_0 := blk_frozen BK620.out 0; have hfz6_1 := blk_frozen BK620.out 1; have hfz6_2 := blk_frozen BK620.out 2) | ((with_reducible refine gate_callee (f := 68) rfl ?_); refine goesL_ (some 8) rfl rfl Try.func68 (by kernel_rfl) rfl #[.slice A0_2 l0_2.length c0_2, .int .i64 a1] rfl (by (try simp only [List.map_toArray, List.map_cons, List.map_nil]); first | done | rfl | (simp only [List.length_drop, List.length_take]; rfl)) ?_; (with_reducible refine (laws_szItemS.calls k _ _ l0_2 a1 t621 _ ?side1 ?side2 A3.out).mono ?_); (case side1 => repeat (first | exact (Kd.C_below HR0_2.out HB.out) | (with_reducible refine Kd.C_alloc ?_ _) | (with_reducible refine Kd.C_drewN ?_ _) | (with_reducible refine Kd.C_drew ?_))); (case side2 => exact HC0_2.out); rintro e w7 ⟨rfl, hb⟩; refine ⟨_, rfl, ?_⟩; have n0_ := Aside0.mk (blk_below (g := gb620) (o := .cells #[.int .i64 a0_0, .int .i64 a0_1, .slice A0_2 l0_2.length c0_2] 56 (0, 0)) (by (with_reducible repeat (first | refine blk_drewN ?_ _ | refine blk_drew ?_ | refine blk_alloc ?_ _)); exact BK620.out) hb); have n1_ := Aside0.mk (below_step (by repeat (first | (with_reducible first | exact HB.out | apply below_alloc | apply pw_below_drewN | apply below_drew1 | refine below_set ?_ GE620.out) | exact HB.out)) hb); clear BK620; clear HB; have BK620 := n0_; have HB := n1_; clear n0_ n1_; (try clear hb); (try clear hb2); (try clear hk); (try clear hi)))
    go_ret
    exact ⟨by first | rfl | (simp [errW_none, errW_some] <;> rfl) | (simp [*, errW_none, errW_some] <;> rfl), by repeat (first | (with_reducible first | exact HB.out | apply below_alloc | apply pw_below_drewN | apply below_drew1 | refine below_set ?_ GE620.out) | exact HB.out)⟩
  · rw [if_neg c4] at H
    have c4b0 : decide (t621 < 0) = false := decide_eq_false c4
    clear c4
    obtain rfl := Option.some.inj H
    go_enter Try.func29, Try.ntmps29
    go_wp2_with (first | ((with_reducible refine gate_dst (N := 2) rfl ?_); refine box_event ?hg (N := 2) ?hd (cs := #[.int .i64 a0_0, .int .i64 a0_1, .slice A0_2 l0_2.length c0_2]) (t := 56) ?hr ?_; (case hd => rfl); (case hg => rfl); (case hr => first | (go_simp; done) | (go_simp; rfl)); intro gb620 hg w8 hbox hb; have n0_ := Aside0.mk (below_step (by repeat (first | (with_reducible first | exact HB.out | apply below_alloc | apply pw_below_drewN | apply below_drew1) | exact HB.out)) hb); have n1_ := Aside0.mk (hbox); have n2_ := Aside0.mk ((by rw [hg]; exact (below_size (by repeat (first | (with_reducible first | exact HB.out | apply below_alloc | apply pw_below_drewN | apply below_drew1) | exact HB.out))) : w.heap.size ≤ gb620)); have n3_ := Aside0.mk ((by rw [hg]; exact (below_size (by repeat (first | (with_reducible first | exact HB.out | apply below_alloc | apply pw_below_drewN | apply below_drew1) | exact HB.out))) : w.heap.size ≤ gb620)); clear HB; have HB := n0_; have BK620 := n1_; have GW620 := n2_; have GE620 := n3_; clear n0_ n1_ n2_ n3_; clear hb hbox hg; have hcz9_0 : w8.cell? ⟨gb620, 0, none⟩ = some (.int .i64 a0_0) := (blk_cell BK620.out 0).trans rfl; have hcz9_1 : w8.cell? ⟨gb620, 1, none⟩ = some (.int .i64 a0_1) := (blk_cell BK620.out 1).trans rfl; have hcz9_2 : w8.cell? ⟨gb620, 2, none⟩ = some (.slice A0_2 l0_2.length c0_2) := (blk_cell BK620.out 2).trans rfl; have hfz9_0 := blk_frozen BK620.out 0; have hfz9_1 := blk_frozen BK620.out 1; have hfz9_2 := blk_frozen BK620.out 2) | ((with_reducible refine gate_callee (f := 68) rfl ?_); refine goesL_ (some 8) rfl rfl Try.func68 (by kernel_rfl) rfl #[.slice A0_2 l0_2.length c0_2, .int .i64 a1] rfl (by (try simp only [List.map_toArray, List.map_cons, List.map_nil]); first | done | rfl | (simp only [List.length_drop, List.length_take]; rfl)) ?_; (with_reducible refine (laws_szItemS.calls k _ _ l0_2 a1 t621 _ ?side1 ?side2 A3.out).mono ?_); (case side1 => repeat (first | exact (Kd.C_below HR0_2.out HB.out) | (with_reducible refine Kd.C_alloc ?_ _) | (with_reducible refine Kd.C_drewN ?_ _) | (with_reducible refine Kd.C_drew ?_))); (case side2 => exact HC0_2.out); rintro e w10 ⟨rfl, hb⟩; refine ⟨_, rfl, ?_⟩; have n0_ := Aside0.mk (blk_below (g := gb620) (o := .cells #[.int .i64 a0_0, .int .i64 a0_1, .slice A0_2 l0_2.length c0_2] 56 (0, 0)) (by (with_reducible repeat (first | refine blk_drewN ?_ _ | refine blk_drew ?_ | refine blk_alloc ?_ _)); exact BK620.out) hb); have n1_ := Aside0.mk (below_step (by repeat (first | (with_reducible first | exact HB.out | apply below_alloc | apply pw_below_drewN | apply below_drew1 | refine below_set ?_ GE620.out) | exact HB.out)) hb); clear BK620; clear HB; have BK620 := n0_; have HB := n1_; clear n0_ n1_; (try clear hb); (try clear hb2); (try clear hk); (try clear hi)))
    go_ret
    exact ⟨by first | rfl | (simp [errW_none, errW_some] <;> rfl) | (simp [*, errW_none, errW_some] <;> rfl), by repeat (first | (with_reducible first | exact HB.out | apply below_alloc | apply pw_below_drewN | apply below_drew1 | refine below_set ?_ GE620.out) | exact HB.out)⟩

/-! ### laws_toItem: function 104 -/
def laws_toItem.f (a0_0 : Int) (a0_1 : ByteArray) (a0_2 : ByteArray) (a0_3 : Int) (a0_4 : Int) : Option (Int × ByteArray × ByteArray × Int × Int) := some (a0_0, a0_1, a0_2, a0_3, a0_4)
set_option maxHeartbeats 8000000 in
set_option maxRecDepth 100000 in
theorem laws_toItem.calls (a0_0 : Int) (a0_1 : ByteArray) (a0_2 : ByteArray) (a0_3 : Int) (a0_4 : Int) (r1 : Int) (r2 : ByteArray) (r3 : ByteArray) (r4 : Int) (r5 : Int) (w : World) (h : laws_toItem.f a0_0 a0_1 a0_2 a0_3 a0_4 = some (r1, r2, r3, r4, r5)) :
    Calls Try.prog 104 #[.agg #[.int .i64 a0_0, .string a0_1, .string a0_2, .int .i64 a0_3, .int .i64 a0_4]] w fun e w' => e = .returned (.agg #[.int .i64 r1, .string r2, .string r3, .int .i64 r4, .int .i64 r5]) ∧ Below w.heap.size w w' := by
  have hu136 := Try.underlying136
  have hu33 := Try.underlying33
  have HB := Aside0.mk (Below.refl w.heap.size w)
  have H : (some (a0_0, a0_1, a0_2, a0_3, a0_4)) = some (r1, r2, r3, r4, r5) := h
  clear h
  simp only [Option.some.injEq, Prod.mk.injEq] at H
  obtain ⟨rfl, rfl, rfl, rfl, rfl⟩ := H
  go_enter Try.func104, Try.ntmps104
  go_wp2_with (first | ((with_reducible refine gate_dst (N := 1) rfl ?_); refine box_event ?hg (N := 1) ?hd (cs := #[.int .i64 a0_0, .string a0_1, .string a0_2, .int .i64 a0_3, .int .i64 a0_4]) (t := 136) ?hr ?_; (case hd => rfl); (case hg => rfl); (case hr => first | (go_simp; done) | (go_simp; rfl)); intro gb622 hg w2 hbox hb; have n0_ := Aside0.mk (below_step (by repeat (first | (with_reducible first | exact HB.out | apply below_alloc | apply pw_below_drewN | apply below_drew1) | exact HB.out)) hb); have n1_ := Aside0.mk (hbox); have n2_ := Aside0.mk ((by rw [hg]; exact (below_size (by repeat (first | (with_reducible first | exact HB.out | apply below_alloc | apply pw_below_drewN | apply below_drew1) | exact HB.out))) : w.heap.size ≤ gb622)); have n3_ := Aside0.mk ((by rw [hg]; exact (below_size (by repeat (first | (with_reducible first | exact HB.out | apply below_alloc | apply pw_below_drewN | apply below_drew1) | exact HB.out))) : w.heap.size ≤ gb622)); clear HB; have HB := n0_; have BK622 := n1_; have GW622 := n2_; have GE622 := n3_; clear n0_ n1_ n2_ n3_; clear hb hbox hg) | ((with_reducible refine gate_dst (N := 2) rfl ?_); refine box_event ?hg (N := 2) ?hd (cs := #[.int .i64 0, .string (⟨#[]⟩ : ByteArray), .string (⟨#[]⟩ : ByteArray), .int .i64 0, .int .i64 0]) (t := 33) ?hr ?_; (case hd => rfl); (case hg => rfl); (case hr => first | (go_simp; done) | (go_simp; rfl)); intro gb623 hg w3 hbox hb; have n0_ := Aside0.mk (blk_below (g := gb622) (o := .cells #[.int .i64 a0_0, .string a0_1, .string a0_2, .int .i64 a0_3, .int .i64 a0_4] 136 (0, 0)) (by (with_reducible repeat (first | refine blk_drewN ?_ _ | refine blk_drew ?_ | refine blk_alloc ?_ _)); exact BK622.out) hb); have n1_ := Aside0.mk (below_step (by repeat (first | (with_reducible first | exact HB.out | apply below_alloc | apply pw_below_drewN | apply below_drew1 | refine below_set ?_ GE622.out) | exact HB.out)) hb); have n2_ := Aside0.mk (hbox); have n3_ := Aside0.mk ((by rw [hg]; exact (below_size (by repeat (first | (with_reducible first | exact HB.out | apply below_alloc | apply pw_below_drewN | apply below_drew1 | refine below_set ?_ GE622.out) | exact HB.out))) : w.heap.size ≤ gb623)); have n4_ := Aside0.mk ((by rw [hg]; exact (below_size (by repeat (first | (with_reducible first | exact HB.out | apply below_alloc | apply pw_below_drewN | apply below_drew1 | refine below_set ?_ GE622.out) | exact HB.out))) : w.heap.size ≤ gb623)); have n5_ := Aside0.mk ((by rw [hg]; exact Nat.ne_of_lt (blk_lt (g := gb622) (o := .cells #[.int .i64 a0_0, .string a0_1, .string a0_2, .int .i64 a0_3, .int .i64 a0_4] 136 (0, 0)) (by (with_reducible repeat (first | refine blk_drewN ?_ _ | refine blk_drew ?_ | refine blk_alloc ?_ _)); exact BK622.out)) : gb622 ≠ gb623)); have n6_ := Aside0.mk ((by rw [hg]; exact Nat.ne_of_gt (blk_lt (g := gb622) (o := .cells #[.int .i64 a0_0, .string a0_1, .string a0_2, .int .i64 a0_3, .int .i64 a0_4] 136 (0, 0)) (by (with_reducible repeat (first | refine blk_drewN ?_ _ | refine blk_drew ?_ | refine blk_alloc ?_ _)); exact BK622.out)) : gb623 ≠ gb622)); clear BK622; clear HB; have BK622 := n0_; have HB := n1_; have BK623 := n2_; have GW623 := n3_; have GE623 := n4_; have NB622_623 := n5_; have NB623_622 := n6_; clear n0_ n1_ n2_ n3_ n4_ n5_ n6_; clear hb hbox hg) | ((with_reducible refine gate_dst (N := 3) rfl ?_); refine box_event ?hg (N := 3) ?hd (cs := #[.int .i64 0, .string (⟨#[]⟩ : ByteArray), .string (⟨#[]⟩ : ByteArray), .int .i64 0, .int .i64 0]) (t := 33) ?hr ?_; (case hd => rfl); (case hg => rfl); (case hr => first | (go_simp; done) | (go_simp; rfl)); intro gb624 hg w4 hbox hb; have n0_ := Aside0.mk (blk_below (g := gb622) (o := .cells #[.int .i64 a0_0, .string a0_1, .string a0_2, .int .i64 a0_3, .int .i64 a0_4] 136 (0, 0)) (by (with_reducible repeat (first | refine blk_drewN ?_ _ | refine blk_drew ?_ | refine blk_alloc ?_ _)); exact BK622.out) hb); have n1_ := Aside0.mk (blk_below (g := gb623) (o := .cells #[.int .i64 0, .string (⟨#[]⟩ : ByteArray), .string (⟨#[]⟩ : ByteArray), .int .i64 0, .int .i64 0] 33 (0, 0)) (by (with_reducible repeat (first | refine blk_drewN ?_ _ | refine blk_drew ?_ | refine blk_alloc ?_ _)); exact BK623.out) hb); have n2_ := Aside0.mk (below_step (by repeat (first | (with_reducible first | exact HB.out | apply below_alloc | apply pw_below_drewN | apply below_drew1 | refine below_set ?_ GE622.out | refine below_set ?_ GE623.out) | exact HB.out)) hb); have n3_ := Aside0.mk (hbox); have n4_ := Aside0.mk ((by rw [hg]; exact (below_size (by repeat (first | (with_reducible first | exact HB.out | apply below_alloc | apply pw_below_drewN | apply below_drew1 | refine below_set ?_ GE622.out | refine below_set ?_ GE623.out) | exact HB.out))) : w.heap.size ≤ gb624)); have n5_ := Aside0.mk ((by rw [hg]; exact (below_size (by repeat (first | (with_reducible first | exact HB.out | apply below_alloc | apply pw_below_drewN | apply below_drew1 | refine below_set ?_ GE622.out | refine below_set ?_ GE623.out) | exact HB.out))) : w.heap.size ≤ gb624)); have n6_ := Aside0.mk ((by rw [hg]; exact Nat.ne_of_lt (blk_lt (g := gb622) (o := .cells #[.int .i64 a0_0, .string a0_1, .string a0_2, .int .i64 a0_3, .int .i64 a0_4] 136 (0, 0)) (by (with_reducible repeat (first | refine blk_drewN ?_ _ | refine blk_drew ?_ | refine blk_alloc ?_ _)); exact BK622.out)) : gb622 ≠ gb624)); have n7_ := Aside0.mk ((by rw [hg]; exact Nat.ne_of_gt (blk_lt (g := gb622) (o := .cells #[.int .i64 a0_0, .string a0_1, .string a0_2, .int .i64 a0_3, .int .i64 a0_4] 136 (0, 0)) (by (with_reducible repeat (first | refine blk_drewN ?_ _ | refine blk_drew ?_ | refine blk_alloc ?_ _)); exact BK622.out)) : gb624 ≠ gb622)); have n8_ := Aside0.mk ((by rw [hg]; exact Nat.ne_of_lt (blk_lt (g := gb623) (o := .cells #[.int .i64 0, .string (⟨#[]⟩ : ByteArray), .string (⟨#[]⟩ : ByteArray), .int .i64 0, .int .i64 0] 33 (0, 0)) (by (with_reducible repeat (first | refine blk_drewN ?_ _ | refine blk_drew ?_ | refine blk_alloc ?_ _)); exact BK623.out)) : gb623 ≠ gb624)); have n9_ := Aside0.mk ((by rw [hg]; exact Nat.ne_of_gt (blk_lt (g := gb623) (o := .cells #[.int .i64 0, .string (⟨#[]⟩ : ByteArray), .string (⟨#[]⟩ : ByteArray), .int .i64 0, .int .i64 0] 33 (0, 0)) (by (with_reducible repeat (first | refine blk_drewN ?_ _ | refine blk_drew ?_ | refine blk_alloc ?_ _)); exact BK623.out)) : gb624 ≠ gb623)); clear BK622; clear BK623; clear HB; have BK622 := n0_; have BK623 := n1_; have HB := n2_; have BK624 := n3_; have GW624 := n4_; have GE624 := n5_; have NB622_624 := n6_; have NB624_622 := n7_; have NB623_624 := n8_; have NB624_623 := n9_; clear n0_ n1_ n2_ n3_ n4_ n5_ n6_ n7_ n8_ n9_; clear hb hbox hg; have hnb5 := NB622_623.out; have hnc5 := NB623_622.out; have hnb6 := NB622_624.out; have hnc6 := NB624_622.out; have hcz7_0 : w4.cell? ⟨gb622, 0, none⟩ = some (.int .i64 a0_0) := (blk_cell BK622.out 0).trans rfl; have hcz7_1 : w4.cell? ⟨gb622, 1, none⟩ = some (.string a0_1) := (blk_cell BK622.out 1).trans rfl; have hcz7_2 : w4.cell? ⟨gb622, 2, none⟩ = some (.string a0_2) := (blk_cell BK622.out 2).trans rfl; have hcz7_3 : w4.cell? ⟨gb622, 3, none⟩ = some (.int .i64 a0_3) := (blk_cell BK622.out 3).trans rfl; have hcz7_4 : w4.cell? ⟨gb622, 4, none⟩ = some (.int .i64 a0_4) := (blk_cell BK622.out 4).trans rfl; have hfz7_0 := blk_frozen BK622.out 0; have hfz7_1 := blk_frozen BK622.out 1; have hfz7_2 := blk_frozen BK622.out 2; have hfz7_3 := blk_frozen BK622.out 3; have hfz7_4 := blk_frozen BK622.out 4; have hnb8 := NB624_623.out; have hnc8 := NB623_624.out; have hcz9_0 : w4.cell? ⟨gb624, 0, none⟩ = some (.int .i64 0) := (blk_cell BK624.out 0).trans rfl; have hcz9_1 : w4.cell? ⟨gb624, 1, none⟩ = some (.string (⟨#[]⟩ : ByteArray)) := (blk_cell BK624.out 1).trans rfl; have hcz9_2 : w4.cell? ⟨gb624, 2, none⟩ = some (.string (⟨#[]⟩ : ByteArray)) := (blk_cell BK624.out 2).trans rfl; have hcz9_3 : w4.cell? ⟨gb624, 3, none⟩ = some (.int .i64 0) := (blk_cell BK624.out 3).trans rfl; have hcz9_4 : w4.cell? ⟨gb624, 4, none⟩ = some (.int .i64 0) := (blk_cell BK624.out 4).trans rfl; have hfz9_0 := blk_frozen BK624.out 0; have hfz9_1 := blk_frozen BK624.out 1; have hfz9_2 := blk_frozen BK624.out 2; have hfz9_3 := blk_frozen BK624.out 3; have hfz9_4 := blk_frozen BK624.out 4; have hcz10_0 : w4.cell? ⟨gb623, 0, none⟩ = some (.int .i64 0) := (blk_cell BK623.out 0).trans rfl; have hcz10_1 : w4.cell? ⟨gb623, 1, none⟩ = some (.string (⟨#[]⟩ : ByteArray)) := (blk_cell BK623.out 1).trans rfl; have hcz10_2 : w4.cell? ⟨gb623, 2, none⟩ = some (.string (⟨#[]⟩ : ByteArray)) := (blk_cell BK623.out 2).trans rfl; have hcz10_3 : w4.cell? ⟨gb623, 3, none⟩ = some (.int .i64 0) := (blk_cell BK623.out 3).trans rfl; have hcz10_4 : w4.cell? ⟨gb623, 4, none⟩ = some (.int .i64 0) := (blk_cell BK623.out 4).trans rfl; have hfz10_0 := blk_frozen BK623.out 0; have hfz10_1 := blk_frozen BK623.out 1; have hfz10_2 := blk_frozen BK623.out 2; have hfz10_3 := blk_frozen BK623.out 3; have hfz10_4 := blk_frozen BK623.out 4))
  refine bodyPost_ret (results_cell_row rfl _ _ gb623 33 #[.int .i64 a0_0, .string a0_1, .string a0_2, .int .i64 a0_3, .int .i64 a0_4] (0, 0) _ rfl (by (with_reducible repeat (first | refine blk_drewN ?_ _ | refine blk_drew ?_ | refine blk_alloc ?_ _)); refine blk_put (cs := #[.int .i64 a0_0, .string a0_1, .string a0_2, .int .i64 a0_3, .int .i64 0]) ?_ 4 _ rfl; (with_reducible repeat (first | refine blk_drewN ?_ _ | refine blk_drew ?_ | refine blk_alloc ?_ _)); refine blk_put (cs := #[.int .i64 a0_0, .string a0_1, .string a0_2, .int .i64 0, .int .i64 0]) ?_ 3 _ rfl; (with_reducible repeat (first | refine blk_drewN ?_ _ | refine blk_drew ?_ | refine blk_alloc ?_ _)); refine blk_put (cs := #[.int .i64 a0_0, .string a0_1, .string (⟨#[]⟩ : ByteArray), .int .i64 0, .int .i64 0]) ?_ 2 _ rfl; (with_reducible repeat (first | refine blk_drewN ?_ _ | refine blk_drew ?_ | refine blk_alloc ?_ _)); refine blk_put (cs := #[.int .i64 a0_0, .string (⟨#[]⟩ : ByteArray), .string (⟨#[]⟩ : ByteArray), .int .i64 0, .int .i64 0]) ?_ 1 _ rfl; (with_reducible repeat (first | refine blk_drewN ?_ _ | refine blk_drew ?_ | refine blk_alloc ?_ _)); refine blk_put (cs := #[.int .i64 0, .string (⟨#[]⟩ : ByteArray), .string (⟨#[]⟩ : ByteArray), .int .i64 0, .int .i64 0]) ?_ 0 _ rfl; (with_reducible repeat (first | refine blk_drewN ?_ _ | refine blk_drew ?_ | refine blk_alloc ?_ _)); refine blk_far ?_ NB623_624.out _; (with_reducible repeat (first | refine blk_drewN ?_ _ | refine blk_drew ?_ | refine blk_alloc ?_ _)); refine blk_far ?_ NB623_624.out _; (with_reducible repeat (first | refine blk_drewN ?_ _ | refine blk_drew ?_ | refine blk_alloc ?_ _)); refine blk_far ?_ NB623_624.out _; (with_reducible repeat (first | refine blk_drewN ?_ _ | refine blk_drew ?_ | refine blk_alloc ?_ _)); refine blk_far ?_ NB623_624.out _; (with_reducible repeat (first | refine blk_drewN ?_ _ | refine blk_drew ?_ | refine blk_alloc ?_ _)); refine blk_far ?_ NB623_624.out _; (with_reducible repeat (first | refine blk_drewN ?_ _ | refine blk_drew ?_ | refine blk_alloc ?_ _)); exact BK623.out) Try.underlying33 rfl (by kernel_rfl)) rfl ?_
  exact ⟨by first | rfl | (simp [errW_none, errW_some] <;> rfl) | (simp [*, errW_none, errW_some] <;> rfl), by repeat (first | (with_reducible first | exact HB.out | apply below_alloc | apply pw_below_drewN | apply below_drew1 | refine below_set ?_ GE622.out | refine below_set ?_ GE623.out | refine below_set ?_ GE624.out) | exact HB.out)⟩

/-! ### laws_toItemS: function 69 -/
def laws_toItemS.l0 : Nat → List (S_LItem) → List (S_Item) → Int → Option ((List (S_Item)))
  | 0, _, _, _ => none
  | k + 1, x0, x3, x4 => if x4 < (x0.length : Int) then (if 0 ≤ x4 then ((laws_toItem.f ((rd_LItem x0 x4).f0) ((rd_LItem x0 x4).f1) ((rd_LItem x0 x4).f2) ((rd_LItem x0 x4).f3) ((rd_LItem x0 x4).f4)).bind fun bt629 => (if x4 < (x3.length : Int) then (laws_toItemS.l0 k x0 (x3.set (x4 : Int).toNat (⟨bt629.1, bt629.2.1, bt629.2.2.1, bt629.2.2.2.1, bt629.2.2.2.2⟩ : S_Item)) (wrap64 (x4 + 1))) else (none))) else (none)) else (some x3)
def laws_toItemS.f (k : Nat) (l0 : List (S_LItem)) : Option ((List (S_Item))) := if 0 ≤ (l0.length : Int) then (if ((l0.length : Int) : Int).toNat ≤ 5026338869833 then (laws_toItemS.l0 k l0 (List.replicate ((l0.length : Int) : Int).toNat z_Item) 0) else (none)) else (none)
theorem laws_toItemS.mono_l : ∀ k, (∀ y0 y1 y2, LeO (laws_toItemS.l0 k y0 y1 y2) (laws_toItemS.l0 (k + 1) y0 y1 y2))
  | 0 => fun _ _ _ r h => by simp [laws_toItemS.l0] at h
  | k + 1 => by
    have ih0 := laws_toItemS.mono_l k
    · intro y0 y1 y2
      unfold laws_toItemS.l0
      repeat' first
      | (with_reducible exact ih0 _ _ _)
      | (with_reducible exact LeO.refl _)
      | (with_reducible exact LeO.none _)
      | (with_reducible refine LeO.ite ?_ ?_)
      | (with_reducible refine LeO.bind ?_ (fun _ => ?_))
      | exact ih0 _ _ _
      | exact LeO.none _
      | refine LeO.ite ?_ ?_
      | refine LeO.bind ?_ (fun _ => ?_)
theorem laws_toItemS.mono : ∀ a0 k, LeO (laws_toItemS.f k a0) (laws_toItemS.f (k + 1) a0) := by
  intro a0 k
  have ih0 := laws_toItemS.mono_l k
  unfold laws_toItemS.f
  repeat' first
      | (with_reducible exact ih0 _ _ _)
      | (with_reducible exact LeO.refl _)
      | (with_reducible exact LeO.none _)
      | (with_reducible refine LeO.ite ?_ ?_)
      | (with_reducible refine LeO.bind ?_ (fun _ => ?_))
      | exact ih0 _ _ _
      | exact LeO.none _
      | refine LeO.ite ?_ ?_
      | refine LeO.bind ?_ (fun _ => ?_)
set_option maxHeartbeats 8000000 in
set_option maxRecDepth 100000 in
theorem laws_toItemS.calls (k : Nat) (A0 : Option Addr) (c0 : Nat) (l0 : List (S_LItem)) (r : List (S_Item)) (w : World) (hr0 : Kd.C k_LItem w A0 l0.length l0) (hc0 : l0.length ≤ c0) (h : laws_toItemS.f k l0 = some r) :
    Calls Try.prog 69 #[.slice A0 l0.length c0] w fun e w' => ∃ v0_ : Value, e = .returned (v0_) ∧ Kd.R k_Item 33 w' w.heap.size (fun _ => True) v0_ r ∧ Below w.heap.size w w' := by
  have hu136 := Try.underlying136
  have hu33 := Try.underlying33
  have HR0 := Aside0.mk hr0
  have HC0 := Aside0.mk hc0
  clear hr0 hc0
  have HB := Aside0.mk (Below.refl w.heap.size w)
  have H : (if 0 ≤ (l0.length : Int) then (if ((l0.length : Int) : Int).toNat ≤ 5026338869833 then (laws_toItemS.l0 k l0 (List.replicate ((l0.length : Int) : Int).toNat z_Item) 0) else (none)) else (none)) = some r := h
  clear h
  by_cases c2 : 0 ≤ (l0.length : Int)
  · rw [if_pos c2] at H
    have c2b0 := eq_true c2
    have c2b1 : decide (0 ≤ (l0.length : Int)) = true := decide_eq_true c2
    clear c2
    by_cases c3 : ((l0.length : Int) : Int).toNat ≤ 5026338869833
    · rw [if_pos c3] at H
      have c3b0 := eq_true c3
      have c3b1 : decide (((l0.length : Int) : Int).toNat ≤ 5026338869833) = true := decide_eq_true c3
      clear c3
      obtain ⟨y625, hy625⟩ : ∃ y_ : List (S_Item), y_ = (List.replicate ((l0.length : Int) : Int).toNat z_Item) := ⟨_, rfl⟩
      replace H : (laws_toItemS.l0 k l0 y625 0) = some r := by first | (rw [hy625]; with_reducible exact H) | (have H2_ := (Option.bind_some _ _).symm.trans H; rw [hy625]; with_reducible exact H2_) | (have H2_ := (Option.bind_some _ _).symm.trans H; with_reducible exact H2_) | with_reducible exact H | (rw [hy625]; exact H) | exact H
      have Ny625 := Aside0.mk hy625
      clear hy625
      have H' := Aside0.mk H
      clear H
      go_enter Try.func69, Try.ntmps69
      go_wp2_with (first | ((with_reducible refine gate_dst (N := 7) rfl ?_); refine Kd.R_make k_Item _ 33 rfl (N := 7) rfl 24 _ _ rfl (l0.length : Int) rfl rfl Try.underlying24 (.agg #[(.int .i64 0), (.string ⟨#[]⟩), (.string ⟨#[]⟩), (.int .i64 0), (.int .i64 0)]) 56 info33 rfl (by decide) (by omega) z_Item (ok := fun _ => True) (okp := fun _ => True) (k_Item_mkM _ _ _ z_Item ) (fun _ hk => hk) trivial (of_decide_eq_true (by first | (with_reducible assumption) | assumption)) (Nat.le_trans (Nat.mul_le_mul_right _ (of_decide_eq_true (by first | (with_reducible assumption) | assumption) : (l0.length : Int).toNat ≤ 5026338869833)) (by omega)) (Below.refl _ _) (Nat.le_refl _) ?_; intro v626 w4 ho5 hb hg_ hnew_; clear hg_ hnew_; (first | rw [← Ny625.out] at ho5 | (simp only [Int.reduceToNat] at ho5; rw [← Ny625.out] at ho5)); have n0_ := Aside0.mk (Kd.R_lower ho5 (below_size (by repeat (first | (with_reducible first | exact HB.out | apply below_alloc | apply pw_below_drewN | apply below_drew1) | exact HB.out)))); have n1_ := Aside0.mk (below_step (by repeat (first | (with_reducible first | exact HB.out | apply below_alloc | apply pw_below_drewN | apply below_drew1) | exact HB.out)) hb); clear HB; have HO627 := n0_; have HB := n1_; clear n0_ n1_; clear hb ho5))
      go_loopg [4] k (fun kq v4 w' => ∃ (x3_1 : List (S_Item)) (x4_1 : Int), v4 = .int .i64 x4_1 ∧ Aside0 (laws_toItemS.l0 kq l0 x3_1 x4_1 = some r) ∧ Aside0 (kq ≤ k) ∧ Aside0 (Kd.R k_Item 33 w' w.heap.size (fun _ => True) v626 x3_1) ∧ Aside0 (Below w.heap.size w w'))
      case atStart => exact ⟨(y625), (0), (by first | rfl | (simp; done) | (simp [*]; done)), H', ⟨Nat.le_refl _⟩, ⟨by (with_reducible repeat (first | apply Kd.R_alloc | apply Kd.R_drewN | apply Kd.R_drew)); exact HO627.out⟩, ⟨by repeat (first | (with_reducible first | exact HB.out | apply below_alloc | apply pw_below_drewN | apply below_drew1) | exact HB.out)⟩⟩
      case round =>
        clear H'
        try clear c2
        try clear c2b0
        try clear c2b1
        try clear p2
        try clear c3
        try clear c3b0
        try clear c3b1
        obtain ⟨x3_1, x4_1, rfl, HA, HK1, HO_3, HB⟩ := hrel
        cases gk with
        | zero => exact absurd HA.out (by simp [laws_toItemS.l0])
        | succ k1 =>
          have H := HA.out
          clear HA
          simp only [laws_toItemS.l0] at H
          by_cases c6 : x4_1 < (l0.length : Int)
          · rw [if_pos c6] at H
            have c6b0 : decide (x4_1 < (l0.length : Int)) = true := decide_eq_true c6
            clear c6
            by_cases c7 : 0 ≤ x4_1
            · rw [if_pos c7] at H
              have c7b0 : decide (0 ≤ x4_1) = true := decide_eq_true c7
              clear c7
              replace H := Option.bind_eq_some_iff.mp H
              obtain ⟨⟨t629, t630, t631, t632, t633⟩, A80, H⟩ := H
              replace H : (if x4_1 < (x3_1.length : Int) then (laws_toItemS.l0 k1 l0 (x3_1.set (x4_1 : Int).toNat (⟨t629, t630, t631, t632, t633⟩ : S_Item)) (wrap64 (x4_1 + 1))) else (none)) = some r := H
              have A8 := Aside0.mk A80
              clear A80
              by_cases c9 : x4_1 < (x3_1.length : Int)
              · rw [if_pos c9] at H
                have c9b0 : decide (x4_1 < (x3_1.length : Int)) = true := decide_eq_true c9
                clear c9
                obtain ⟨y634, hy634⟩ : ∃ y_ : List (S_Item), y_ = (x3_1.set (x4_1 : Int).toNat (⟨t629, t630, t631, t632, t633⟩ : S_Item)) := ⟨_, rfl⟩
                replace H : (laws_toItemS.l0 k1 l0 y634 (wrap64 (x4_1 + 1))) = some r := by first | (rw [hy634]; with_reducible exact H) | (have H2_ := (Option.bind_some _ _).symm.trans H; rw [hy634]; with_reducible exact H2_) | (have H2_ := (Option.bind_some _ _).symm.trans H; with_reducible exact H2_) | with_reducible exact H | (rw [hy634]; exact H) | exact H
                have Ny634 := Aside0.mk hy634
                clear hy634
                have H' := Aside0.mk H
                clear H
                have p628 : 0 ≤ (x4_1 : Int) := of_decide_eq_true (by first | (with_reducible assumption) | assumption)
                have q628 : x4_1 < (l0.length : Int) := of_decide_eq_true (by first | (with_reducible assumption) | assumption)
                obtain ⟨ad628, e628, hx628_0, hx628_1, hx628_2, hx628_3, hx628_4⟩ := at_LItem HR0.out x4_1 p628 q628
                cases e628
                replace hx628_0 := (HB.out.cell (World.block_lt_of_cell? w _ hx628_0)).trans hx628_0
                replace hx628_1 := (HB.out.cell (World.block_lt_of_cell? w _ hx628_1)).trans hx628_1
                replace hx628_2 := (HB.out.cell (World.block_lt_of_cell? w _ hx628_2)).trans hx628_2
                replace hx628_3 := (HB.out.cell (World.block_lt_of_cell? w _ hx628_3)).trans hx628_3
                replace hx628_4 := (HB.out.cell (World.block_lt_of_cell? w _ hx628_4)).trans hx628_4
                replace p628 := eq_true p628
                replace q628 := eq_true q628
                go_wp2_with (first | ((with_reducible refine gate_callee (f := 104) rfl ?_); refine goesL_ (some 20) rfl rfl Try.func104 (by kernel_rfl) rfl #[.agg #[.int .i64 ((rd_LItem l0 x4_1).f0), .string ((rd_LItem l0 x4_1).f1), .string ((rd_LItem l0 x4_1).f2), .int .i64 ((rd_LItem l0 x4_1).f3), .int .i64 ((rd_LItem l0 x4_1).f4)]] rfl (by (try simp only [List.map_toArray, List.map_cons, List.map_nil]); first | done | rfl | (simp only [List.length_drop, List.length_take]; rfl)) ?_; (with_reducible refine (laws_toItem.calls ((rd_LItem l0 x4_1).f0) ((rd_LItem l0 x4_1).f1) ((rd_LItem l0 x4_1).f2) ((rd_LItem l0 x4_1).f3) ((rd_LItem l0 x4_1).f4) t629 t630 t631 t632 t633 _ A8.out).mono ?_); rintro e w11 ⟨rfl, hb⟩; refine ⟨_, rfl, ?_⟩; have n0_ := Aside0.mk (Kd.R_below (by (with_reducible repeat (first | apply Kd.R_alloc | apply Kd.R_drewN | apply Kd.R_drew)); exact HO_3.out) hb); have n1_ := Aside0.mk (below_step (by repeat (first | (with_reducible first | exact HB.out | apply below_alloc | apply pw_below_drewN | apply below_drew1) | exact HB.out)) hb); clear HO_3; clear HB; have HO_3 := n0_; have HB := n1_; clear n0_ n1_; (try clear hb); (try clear hb2); (try clear hk); (try clear hi); have p10 : 0 ≤ (x4_1 : Int) := of_decide_eq_true (by first | (with_reducible assumption) | assumption); have q10 : (x4_1 : Int) < ((x3_1.length : Int) : Int) := of_decide_eq_true (by first | (with_reducible assumption) | assumption); obtain ⟨go10, co10, eo10, gb10, gl10, cl10, HG10⟩ := Kd.R_form HO_3.out (by omega); (first | cases eo10 | (injection eo10 with ea_ en_ ec_; (first | subst ea_ | (injection ea_ with ea_; subst ea_)); subst ec_; clear en_)); have GB10 := Aside0.mk gb10; have GG10 := Aside0.mk HG10; clear gb10 gl10 HG10; obtain ⟨ce10, hcl10, hM10, hcc10, hfr10⟩ := Kd.R_elem HO_3.out z_Item (x4_1 : Int) p10 q10; obtain rfl := k_Item_openM hM10; have hx10_0 : w11.cell? ⟨go10, (x4_1 : Int).toNat * 5, none⟩ = some (.int .i64 ((rd_Item x3_1 x4_1).f0)) := hcc10 0 _ rfl; have hx10_1 : w11.cell? ⟨go10, (x4_1 : Int).toNat * 5 + 1, none⟩ = some (.string ((rd_Item x3_1 x4_1).f1)) := hcc10 1 _ rfl; have hx10_2 : w11.cell? ⟨go10, (x4_1 : Int).toNat * 5 + 2, none⟩ = some (.string ((rd_Item x3_1 x4_1).f2)) := hcc10 2 _ rfl; have hx10_3 : w11.cell? ⟨go10, (x4_1 : Int).toNat * 5 + 3, none⟩ = some (.int .i64 ((rd_Item x3_1 x4_1).f3)) := hcc10 3 _ rfl; have hx10_4 : w11.cell? ⟨go10, (x4_1 : Int).toNat * 5 + 4, none⟩ = some (.int .i64 ((rd_Item x3_1 x4_1).f4)) := hcc10 4 _ rfl; have hf10_0 : w11.frozen? ⟨go10, (x4_1 : Int).toNat * 5, none⟩ = false := hfr10 0; have hf10_1 : w11.frozen? ⟨go10, (x4_1 : Int).toNat * 5 + 1, none⟩ = false := hfr10 1; have hf10_2 : w11.frozen? ⟨go10, (x4_1 : Int).toNat * 5 + 2, none⟩ = false := hfr10 2; have hf10_3 : w11.frozen? ⟨go10, (x4_1 : Int).toNat * 5 + 3, none⟩ = false := hfr10 3; have hf10_4 : w11.frozen? ⟨go10, (x4_1 : Int).toNat * 5 + 4, none⟩ = false := hfr10 4; clear hcl10 hcc10 hfr10 hM10; replace p10 := eq_true p10; replace q10 := eq_true q10; have HX12 := Aside0.mk (show Kd.R k_Item 33 w11 w.heap.size (fun _ => True) (.slice (some ⟨go10, 0, none⟩) x3_1.length co10) x3_1 from (by (with_reducible repeat (first | apply Kd.R_alloc | apply Kd.R_drewN | apply Kd.R_drew)); exact HO_3.out)); obtain ⟨ce12, hcl12, hM12, hcc12, hfr12⟩ := Kd.R_elem HX12.out z_Item (x4_1 : Int) (of_decide_eq_true (by first | (with_reducible assumption) | assumption)) (by have h_ : (x4_1 : Int) < ((x3_1.length : Int) : Int) := of_decide_eq_true (by first | (with_reducible assumption) | assumption); first | exact h_ | (have e_ := (Kd.R_reads' HO_3.out).1; omega) | simpa using h_); obtain rfl := k_Item_openM hM12; have HP12 := Kd.R_seg HX12.out (x4_1 : Int) (of_decide_eq_true (by first | (with_reducible assumption) | assumption)) (by have h_ : (x4_1 : Int) < ((x3_1.length : Int) : Int) := of_decide_eq_true (by first | (with_reducible assumption) | assumption); first | exact h_ | (have e_ := (Kd.R_reads' HO_3.out).1; omega) | simpa using h_) (seg := [.int .i64 t629, .string t630, .string t631, .int .i64 t632, .int .i64 t633]) (j := 0) hcl12 hcc12 (show 5 ≤ 5 from by decide) (x' := (⟨t629, t630, t631, t632, t633⟩ : S_Item)) (k_Item_mkM _ _ _ (⟨t629, t630, t631, t632, t633⟩ : S_Item) ) (fun _ hk => hk); have hx12_0 := hcc12 0 _ rfl; (try simp only [show (k_Item).sz = 5 from rfl, Nat.mul_one, Nat.add_zero] at hx12_0); have hf12_0 := hfr12 0; (try simp only [show (k_Item).sz = 5 from rfl, Nat.mul_one, Nat.add_zero] at hf12_0); have hx12_1 := hcc12 1 _ rfl; (try simp only [show (k_Item).sz = 5 from rfl, Nat.mul_one, Nat.add_zero] at hx12_1); have hf12_1 := hfr12 1; (try simp only [show (k_Item).sz = 5 from rfl, Nat.mul_one, Nat.add_zero] at hf12_1); have hx12_2 := hcc12 2 _ rfl; (try simp only [show (k_Item).sz = 5 from rfl, Nat.mul_one, Nat.add_zero] at hx12_2); have hf12_2 := hfr12 2; (try simp only [show (k_Item).sz = 5 from rfl, Nat.mul_one, Nat.add_zero] at hf12_2); have hx12_3 := hcc12 3 _ rfl; (try simp only [show (k_Item).sz = 5 from rfl, Nat.mul_one, Nat.add_zero] at hx12_3); have hf12_3 := hfr12 3; (try simp only [show (k_Item).sz = 5 from rfl, Nat.mul_one, Nat.add_zero] at hf12_3); have hx12_4 := hcc12 4 _ rfl; (try simp only [show (k_Item).sz = 5 from rfl, Nat.mul_one, Nat.add_zero] at hx12_4); have hf12_4 := hfr12 4; (try simp only [show (k_Item).sz = 5 from rfl, Nat.mul_one, Nat.add_zero] at hf12_4); clear hcl12 hcc12 hfr12 hM12) | ((with_reducible refine gate_store (t := 33) (p := 21) rfl ?_); refine store_event (t := 33) (p := 21) (v := ?vo_w13) (w1 := (((((w11.setCell ⟨go10, (x4_1 : Int).toNat * 5, none⟩ (.int .i64 t629)).setCell ⟨go10, (x4_1 : Int).toNat * 5 + 1, none⟩ (.string t630)).setCell ⟨go10, (x4_1 : Int).toNat * 5 + 2, none⟩ (.string t631)).setCell ⟨go10, (x4_1 : Int).toNat * 5 + 3, none⟩ (.int .i64 t632)).setCell ⟨go10, (x4_1 : Int).toNat * 5 + 4, none⟩ (.int .i64 t633))) ?hg ?ho ?hn ?hr ?_; (case ho => rfl); (case hg => rfl); (case hn => rfl); (case hr => first | (go_simp; done) | (go_simp; rfl)); intro w13 hw; have hg : w11.grownBy w13 (some go10) := (by rw [hw]; exact HP12.2); have hp_ : Kd.R k_Item 33 w13 w.heap.size (fun _ => True) (.slice (some ⟨go10, 0, none⟩) x3_1.length co10) y634 := (by rw [hw, Ny634.out]; exact HP12.1); clear HP12; have n0_ := Aside0.mk (hp_); have n1_ := Aside0.mk ((by rw [hw]; exact below_set (below_set (below_set (below_set (below_set (HB.out) GB10.out) GB10.out) GB10.out) GB10.out) GB10.out : Below w.heap.size w w13)); clear HO_3; clear HB; have HO_3 := n0_; have HB := n1_; clear n0_ n1_; clear hg hw hp_))
                go_roundg k1
                case measure => have := HK1.out; omega
                case rel => exact ⟨(y634), (wrap64 (x4_1 + 1)), (by first | rfl | (simp; done) | (simp [*]; done)), H', ⟨by have := HK1.out; omega⟩, ⟨by (with_reducible repeat (first | apply Kd.R_alloc | apply Kd.R_drewN | apply Kd.R_drew)); exact HO_3.out⟩, ⟨by repeat (first | (with_reducible first | exact HB.out | apply below_alloc | apply pw_below_drewN | apply below_drew1) | exact HB.out)⟩⟩
              · rw [if_neg c9] at H
                exact absurd H (by simp)
            · rw [if_neg c7] at H
              exact absurd H (by simp)
          · rw [if_neg c6] at H
            have c6b0 : decide (x4_1 < (l0.length : Int)) = false := decide_eq_false c6
            clear c6
            obtain rfl := Option.some.inj H
            go_wp2
            go_ret
            exact ⟨_, by first | rfl | (simp [errW_none, errW_some] <;> rfl) | (simp [*, errW_none, errW_some] <;> rfl), by (with_reducible repeat (first | apply Kd.R_alloc | apply Kd.R_drewN | apply Kd.R_drew)); exact HO_3.out, by repeat (first | (with_reducible first | exact HB.out | apply below_alloc | apply pw_below_drewN | apply below_drew1) | exact HB.out)⟩
    · rw [if_neg c3] at H
      exact absurd H (by simp)
  · rw [if_neg c2] at H
    exact absurd H (by simp)
/-! ### laws_toRow: function 30 -/
def laws_toRow.f (k : Nat) (a0_0 : Int) (a0_1 : Int) (l0_2 : List (S_LItem)) : Option (Int × Int × (List (S_Item))) := (laws_toItemS.f k l0_2).bind fun t638 => (some (a0_0, a0_1, t638))
theorem laws_toRow.mono : ∀ a0 a1 a2 k, LeO (laws_toRow.f k a0 a1 a2) (laws_toRow.f (k + 1) a0 a1 a2) := by
  intro a0 a1 a2 k
  unfold laws_toRow.f
  repeat' first
      | (with_reducible exact laws_toItemS.mono _ _)
      | (with_reducible exact LeO.refl _)
      | (with_reducible exact LeO.none _)
      | (with_reducible refine LeO.ite ?_ ?_)
      | (with_reducible refine LeO.bind ?_ (fun _ => ?_))
      | exact laws_toItemS.mono _ _
      | exact LeO.none _
      | refine LeO.ite ?_ ?_
      | refine LeO.bind ?_ (fun _ => ?_)
set_option maxHeartbeats 8000000 in
set_option maxRecDepth 100000 in
theorem laws_toRow.calls (k : Nat) (a0_0 : Int) (a0_1 : Int) (A0_2 : Option Addr) (c0_2 : Nat) (l0_2 : List (S_LItem)) (r1 : Int) (r2 : Int) (r3 : List (S_Item)) (w : World) (hr0_2 : Kd.C k_LItem w A0_2 l0_2.length l0_2) (hc0_2 : l0_2.length ≤ c0_2) (h : laws_toRow.f k a0_0 a0_1 l0_2 = some (r1, r2, r3)) :
    Calls Try.prog 30 #[.agg #[.int .i64 a0_0, .int .i64 a0_1, .slice A0_2 l0_2.length c0_2]] w fun e w' => ∃ v2_ : Value, e = .returned (.agg #[.int .i64 r1, .int .i64 r2, v2_]) ∧ Kd.R k_Item 33 w' w.heap.size (fun _ => True) v2_ r3 ∧ Below w.heap.size w w' := by
  have hu56 := Try.underlying56
  have hu26 := Try.underlying26
  have HR0_2 := Aside0.mk hr0_2
  have HC0_2 := Aside0.mk hc0_2
  clear hr0_2 hc0_2
  have HB := Aside0.mk (Below.refl w.heap.size w)
  have H : ((laws_toItemS.f k l0_2).bind fun t638 => (some (a0_0, a0_1, t638))) = some (r1, r2, r3) := h
  clear h
  replace H := Option.bind_eq_some_iff.mp H
  obtain ⟨t638, A20, H⟩ := H
  replace H : (some (a0_0, a0_1, t638)) = some (r1, r2, r3) := H
  have A2 := Aside0.mk A20
  clear A20
  simp only [Option.some.injEq, Prod.mk.injEq] at H
  obtain ⟨rfl, rfl, rfl⟩ := H
  go_enter Try.func30, Try.ntmps30
  go_wp2_with (first | ((with_reducible refine gate_dst (N := 1) rfl ?_); refine box_event ?hg (N := 1) ?hd (cs := #[.int .i64 a0_0, .int .i64 a0_1, .slice A0_2 l0_2.length c0_2]) (t := 56) ?hr ?_; (case hd => rfl); (case hg => rfl); (case hr => first | (go_simp; done) | (go_simp; rfl)); intro gb635 hg w3 hbox hb; have n0_ := Aside0.mk (below_step (by repeat (first | (with_reducible first | exact HB.out | apply below_alloc | apply pw_below_drewN | apply below_drew1) | exact HB.out)) hb); have n1_ := Aside0.mk (hbox); have n2_ := Aside0.mk ((by rw [hg]; exact (below_size (by repeat (first | (with_reducible first | exact HB.out | apply below_alloc | apply pw_below_drewN | apply below_drew1) | exact HB.out))) : w.heap.size ≤ gb635)); have n3_ := Aside0.mk ((by rw [hg]; exact (below_size (by repeat (first | (with_reducible first | exact HB.out | apply below_alloc | apply pw_below_drewN | apply below_drew1) | exact HB.out))) : w.heap.size ≤ gb635)); clear HB; have HB := n0_; have BK635 := n1_; have GW635 := n2_; have GE635 := n3_; clear n0_ n1_ n2_ n3_; clear hb hbox hg) | ((with_reducible refine gate_dst (N := 2) rfl ?_); refine box_event ?hg (N := 2) ?hd (cs := #[.int .i64 0, .int .i64 0, .slice none 0 0]) (t := 26) ?hr ?_; (case hd => rfl); (case hg => rfl); (case hr => first | (go_simp; done) | (go_simp; rfl)); intro gb636 hg w4 hbox hb; have n0_ := Aside0.mk (blk_below (g := gb635) (o := .cells #[.int .i64 a0_0, .int .i64 a0_1, .slice A0_2 l0_2.length c0_2] 56 (0, 0)) (by (with_reducible repeat (first | refine blk_drewN ?_ _ | refine blk_drew ?_ | refine blk_alloc ?_ _)); exact BK635.out) hb); have n1_ := Aside0.mk (below_step (by repeat (first | (with_reducible first | exact HB.out | apply below_alloc | apply pw_below_drewN | apply below_drew1 | refine below_set ?_ GE635.out) | exact HB.out)) hb); have n2_ := Aside0.mk (hbox); have n3_ := Aside0.mk ((by rw [hg]; exact (below_size (by repeat (first | (with_reducible first | exact HB.out | apply below_alloc | apply pw_below_drewN | apply below_drew1 | refine below_set ?_ GE635.out) | exact HB.out))) : w.heap.size ≤ gb636)); have n4_ := Aside0.mk ((by rw [hg]; exact (below_size (by repeat (first | (with_reducible first | exact HB.out | apply below_alloc | apply pw_below_drewN | apply below_drew1 | refine below_set ?_ GE635.out) | exact HB.out))) : w.heap.size ≤ gb636)); have n5_ := Aside0.mk ((by rw [hg]; exact Nat.ne_of_lt (blk_lt (g := gb635) (o := .cells #[.int .i64 a0_0, .int .i64 a0_1, .slice A0_2 l0_2.length c0_2] 56 (0, 0)) (by (with_reducible repeat (first | refine blk_drewN ?_ _ | refine blk_drew ?_ | refine blk_alloc ?_ _)); exact BK635.out)) : gb635 ≠ gb636)); have n6_ := Aside0.mk ((by rw [hg]; exact Nat.ne_of_gt (blk_lt (g := gb635) (o := .cells #[.int .i64 a0_0, .int .i64 a0_1, .slice A0_2 l0_2.length c0_2] 56 (0, 0)) (by (with_reducible repeat (first | refine blk_drewN ?_ _ | refine blk_drew ?_ | refine blk_alloc ?_ _)); exact BK635.out)) : gb636 ≠ gb635)); clear BK635; clear HB; have BK635 := n0_; have HB := n1_; have BK636 := n2_; have GW636 := n3_; have GE636 := n4_; have NB635_636 := n5_; have NB636_635 := n6_; clear n0_ n1_ n2_ n3_ n4_ n5_ n6_; clear hb hbox hg) | ((with_reducible refine gate_dst (N := 3) rfl ?_); refine box_event ?hg (N := 3) ?hd (cs := #[.int .i64 0, .int .i64 0, .slice none 0 0]) (t := 26) ?hr ?_; (case hd => rfl); (case hg => rfl); (case hr => first | (go_simp; done) | (go_simp; rfl)); intro gb637 hg w5 hbox hb; have n0_ := Aside0.mk (blk_below (g := gb635) (o := .cells #[.int .i64 a0_0, .int .i64 a0_1, .slice A0_2 l0_2.length c0_2] 56 (0, 0)) (by (with_reducible repeat (first | refine blk_drewN ?_ _ | refine blk_drew ?_ | refine blk_alloc ?_ _)); exact BK635.out) hb); have n1_ := Aside0.mk (blk_below (g := gb636) (o := .cells #[.int .i64 0, .int .i64 0, .slice none 0 0] 26 (0, 0)) (by (with_reducible repeat (first | refine blk_drewN ?_ _ | refine blk_drew ?_ | refine blk_alloc ?_ _)); exact BK636.out) hb); have n2_ := Aside0.mk (below_step (by repeat (first | (with_reducible first | exact HB.out | apply below_alloc | apply pw_below_drewN | apply below_drew1 | refine below_set ?_ GE635.out | refine below_set ?_ GE636.out) | exact HB.out)) hb); have n3_ := Aside0.mk (hbox); have n4_ := Aside0.mk ((by rw [hg]; exact (below_size (by repeat (first | (with_reducible first | exact HB.out | apply below_alloc | apply pw_below_drewN | apply below_drew1 | refine below_set ?_ GE635.out | refine below_set ?_ GE636.out) | exact HB.out))) : w.heap.size ≤ gb637)); have n5_ := Aside0.mk ((by rw [hg]; exact (below_size (by repeat (first | (with_reducible first | exact HB.out | apply below_alloc | apply pw_below_drewN | apply below_drew1 | refine below_set ?_ GE635.out | refine below_set ?_ GE636.out) | exact HB.out))) : w.heap.size ≤ gb637)); have n6_ := Aside0.mk ((by rw [hg]; exact Nat.ne_of_lt (blk_lt (g := gb635) (o := .cells #[.int .i64 a0_0, .int .i64 a0_1, .slice A0_2 l0_2.length c0_2] 56 (0, 0)) (by (with_reducible repeat (first | refine blk_drewN ?_ _ | refine blk_drew ?_ | refine blk_alloc ?_ _)); exact BK635.out)) : gb635 ≠ gb637)); have n7_ := Aside0.mk ((by rw [hg]; exact Nat.ne_of_gt (blk_lt (g := gb635) (o := .cells #[.int .i64 a0_0, .int .i64 a0_1, .slice A0_2 l0_2.length c0_2] 56 (0, 0)) (by (with_reducible repeat (first | refine blk_drewN ?_ _ | refine blk_drew ?_ | refine blk_alloc ?_ _)); exact BK635.out)) : gb637 ≠ gb635)); have n8_ := Aside0.mk ((by rw [hg]; exact Nat.ne_of_lt (blk_lt (g := gb636) (o := .cells #[.int .i64 0, .int .i64 0, .slice none 0 0] 26 (0, 0)) (by (with_reducible repeat (first | refine blk_drewN ?_ _ | refine blk_drew ?_ | refine blk_alloc ?_ _)); exact BK636.out)) : gb636 ≠ gb637)); have n9_ := Aside0.mk ((by rw [hg]; exact Nat.ne_of_gt (blk_lt (g := gb636) (o := .cells #[.int .i64 0, .int .i64 0, .slice none 0 0] 26 (0, 0)) (by (with_reducible repeat (first | refine blk_drewN ?_ _ | refine blk_drew ?_ | refine blk_alloc ?_ _)); exact BK636.out)) : gb637 ≠ gb636)); clear BK635; clear BK636; clear HB; have BK635 := n0_; have BK636 := n1_; have HB := n2_; have BK637 := n3_; have GW637 := n4_; have GE637 := n5_; have NB635_637 := n6_; have NB637_635 := n7_; have NB636_637 := n8_; have NB637_636 := n9_; clear n0_ n1_ n2_ n3_ n4_ n5_ n6_ n7_ n8_ n9_; clear hb hbox hg; have hnb6 := NB635_636.out; have hnc6 := NB636_635.out; have hnb7 := NB635_637.out; have hnc7 := NB637_635.out; have hcz8_0 : w5.cell? ⟨gb635, 0, none⟩ = some (.int .i64 a0_0) := (blk_cell BK635.out 0).trans rfl; have hcz8_1 : w5.cell? ⟨gb635, 1, none⟩ = some (.int .i64 a0_1) := (blk_cell BK635.out 1).trans rfl; have hcz8_2 : w5.cell? ⟨gb635, 2, none⟩ = some (.slice A0_2 l0_2.length c0_2) := (blk_cell BK635.out 2).trans rfl; have hfz8_0 := blk_frozen BK635.out 0; have hfz8_1 := blk_frozen BK635.out 1; have hfz8_2 := blk_frozen BK635.out 2; have hnb9 := NB637_636.out; have hnc9 := NB636_637.out; have hcz10_0 : w5.cell? ⟨gb637, 0, none⟩ = some (.int .i64 0) := (blk_cell BK637.out 0).trans rfl; have hcz10_1 : w5.cell? ⟨gb637, 1, none⟩ = some (.int .i64 0) := (blk_cell BK637.out 1).trans rfl; have hcz10_2 : w5.cell? ⟨gb637, 2, none⟩ = some (.slice none 0 0) := (blk_cell BK637.out 2).trans rfl; have hfz10_0 := blk_frozen BK637.out 0; have hfz10_1 := blk_frozen BK637.out 1; have hfz10_2 := blk_frozen BK637.out 2) | ((with_reducible refine gate_callee (f := 69) rfl ?_); refine goesL_ (some 12) rfl rfl Try.func69 (by kernel_rfl) rfl #[.slice A0_2 l0_2.length c0_2] rfl (by (try simp only [List.map_toArray, List.map_cons, List.map_nil]); first | done | rfl | (simp only [List.length_drop, List.length_take]; rfl)) ?_; (with_reducible refine (laws_toItemS.calls k _ _ l0_2 t638 _ ?side1 ?side2 A2.out).mono ?_); (case side1 => exact Kd.C_below HR0_2.out (by repeat (first | (with_reducible first | exact HB.out | apply below_alloc | apply pw_below_drewN | apply below_drew1 | refine below_set ?_ GE635.out | refine below_set ?_ GE636.out | refine below_set ?_ GE637.out) | exact HB.out))); (case side2 => exact HC0_2.out); rintro e w11 ⟨v639, rfl, ho0, hb⟩; refine ⟨_, rfl, ?_⟩; have n0_ := Aside0.mk (Kd.R_lower ho0 (below_size (by repeat (first | (with_reducible first | exact HB.out | apply below_alloc | apply pw_below_drewN | apply below_drew1 | refine below_set ?_ GE635.out | refine below_set ?_ GE636.out | refine below_set ?_ GE637.out) | exact HB.out)))); have n1_ := Aside0.mk (blk_below (g := gb635) (o := .cells #[.int .i64 a0_0, .int .i64 a0_1, .slice A0_2 l0_2.length c0_2] 56 (0, 0)) (by (with_reducible repeat (first | refine blk_drewN ?_ _ | refine blk_drew ?_ | refine blk_alloc ?_ _)); refine blk_far ?_ NB635_637.out _; (with_reducible repeat (first | refine blk_drewN ?_ _ | refine blk_drew ?_ | refine blk_alloc ?_ _)); refine blk_far ?_ NB635_637.out _; (with_reducible repeat (first | refine blk_drewN ?_ _ | refine blk_drew ?_ | refine blk_alloc ?_ _)); exact BK635.out) hb); have n2_ := Aside0.mk (blk_below (g := gb636) (o := .cells #[.int .i64 0, .int .i64 0, .slice none 0 0] 26 (0, 0)) (by (with_reducible repeat (first | refine blk_drewN ?_ _ | refine blk_drew ?_ | refine blk_alloc ?_ _)); refine blk_far ?_ NB636_637.out _; (with_reducible repeat (first | refine blk_drewN ?_ _ | refine blk_drew ?_ | refine blk_alloc ?_ _)); refine blk_far ?_ NB636_637.out _; (with_reducible repeat (first | refine blk_drewN ?_ _ | refine blk_drew ?_ | refine blk_alloc ?_ _)); exact BK636.out) hb); have n3_ := Aside0.mk (blk_below (g := gb637) (o := .cells #[.int .i64 a0_0, .int .i64 a0_1, .slice none 0 0] 26 (0, 0)) (by (with_reducible repeat (first | refine blk_drewN ?_ _ | refine blk_drew ?_ | refine blk_alloc ?_ _)); refine blk_put (cs := #[.int .i64 a0_0, .int .i64 0, .slice none 0 0]) ?_ 1 _ rfl; (with_reducible repeat (first | refine blk_drewN ?_ _ | refine blk_drew ?_ | refine blk_alloc ?_ _)); refine blk_put (cs := #[.int .i64 0, .int .i64 0, .slice none 0 0]) ?_ 0 _ rfl; (with_reducible repeat (first | refine blk_drewN ?_ _ | refine blk_drew ?_ | refine blk_alloc ?_ _)); exact BK637.out) hb); have n4_ := Aside0.mk (below_step (by repeat (first | (with_reducible first | exact HB.out | apply below_alloc | apply pw_below_drewN | apply below_drew1 | refine below_set ?_ GE635.out | refine below_set ?_ GE636.out | refine below_set ?_ GE637.out) | exact HB.out)) hb); clear BK635; clear BK636; clear BK637; clear HB; have HO640 := n0_; have BK635 := n1_; have BK636 := n2_; have BK637 := n3_; have HB := n4_; clear n0_ n1_ n2_ n3_ n4_; (try clear hb); (try clear hb2); (try clear hk); (try clear hi); (try clear ho0); obtain ⟨Ao12, co12, eo12⟩ := Kd.R_slice HO640.out; subst eo12; have hcz13_0 : w11.cell? ⟨gb637, 0, none⟩ = some (.int .i64 a0_0) := (blk_cell BK637.out 0).trans rfl; have hcz13_1 : w11.cell? ⟨gb637, 1, none⟩ = some (.int .i64 a0_1) := (blk_cell BK637.out 1).trans rfl; have hcz13_2 : w11.cell? ⟨gb637, 2, none⟩ = some (.slice none 0 0) := (blk_cell BK637.out 2).trans rfl; have hfz13_0 := blk_frozen BK637.out 0; have hfz13_1 := blk_frozen BK637.out 1; have hfz13_2 := blk_frozen BK637.out 2; have hcz14_0 : w11.cell? ⟨gb636, 0, none⟩ = some (.int .i64 0) := (blk_cell BK636.out 0).trans rfl; have hcz14_1 : w11.cell? ⟨gb636, 1, none⟩ = some (.int .i64 0) := (blk_cell BK636.out 1).trans rfl; have hcz14_2 : w11.cell? ⟨gb636, 2, none⟩ = some (.slice none 0 0) := (blk_cell BK636.out 2).trans rfl; have hfz14_0 := blk_frozen BK636.out 0; have hfz14_1 := blk_frozen BK636.out 1; have hfz14_2 := blk_frozen BK636.out 2))
  refine bodyPost_ret (results_cell_row rfl _ _ gb636 26 #[.int .i64 a0_0, .int .i64 a0_1, .slice Ao12 t638.length co12] (0, 0) _ rfl (by (with_reducible repeat (first | refine blk_drewN ?_ _ | refine blk_drew ?_ | refine blk_alloc ?_ _)); refine blk_put (cs := #[.int .i64 a0_0, .int .i64 a0_1, .slice none 0 0]) ?_ 2 _ rfl; (with_reducible repeat (first | refine blk_drewN ?_ _ | refine blk_drew ?_ | refine blk_alloc ?_ _)); refine blk_put (cs := #[.int .i64 a0_0, .int .i64 0, .slice none 0 0]) ?_ 1 _ rfl; (with_reducible repeat (first | refine blk_drewN ?_ _ | refine blk_drew ?_ | refine blk_alloc ?_ _)); refine blk_put (cs := #[.int .i64 0, .int .i64 0, .slice none 0 0]) ?_ 0 _ rfl; (with_reducible repeat (first | refine blk_drewN ?_ _ | refine blk_drew ?_ | refine blk_alloc ?_ _)); refine blk_far ?_ NB636_637.out _; (with_reducible repeat (first | refine blk_drewN ?_ _ | refine blk_drew ?_ | refine blk_alloc ?_ _)); exact BK636.out) Try.underlying26 rfl (by kernel_rfl)) rfl ?_
  exact ⟨_, by first | rfl | (simp [errW_none, errW_some] <;> rfl) | (simp [*, errW_none, errW_some] <;> rfl), by (with_reducible repeat (first | apply Kd.R_alloc | apply Kd.R_drewN | apply Kd.R_drew)); exact Kd.R_mono (Kd.R_far (p := ⟨gb636, 2, none⟩) (Kd.R_far (p := ⟨gb636, 1, none⟩) (Kd.R_far (p := ⟨gb636, 0, none⟩) (Kd.R_far (p := ⟨gb637, 2, none⟩) (Kd.R_types (Kd.R_types HO640.out BK637.out (by decide)) BK636.out (by decide)) (fun _ hk => hk.1.2) (.slice Ao12 t638.length co12)) (fun _ hk => hk.2) (.int .i64 a0_0)) (fun _ hk => hk.2) (.int .i64 a0_1)) (fun _ hk => hk.2) (.slice Ao12 t638.length co12)) (fun _ hk => trivial), by repeat (first | (with_reducible first | exact HB.out | apply below_alloc | apply pw_below_drewN | apply below_drew1 | refine below_set ?_ GE635.out | refine below_set ?_ GE636.out | refine below_set ?_ GE637.out) | exact HB.out)⟩

/-! ### laws_markRow: function 32 -/
def laws_markRow.f (k : Nat) (a0_0 : Int) (a0_1 : Int) (l0_2 : List (S_Item)) (a1 : Int) : Option (Int × (List (S_Item))) := (laws_markItemS.f k l0_2 a1).bind fun bt642 => (some (bt642.1, bt642.2))
theorem laws_markRow.mono : ∀ a0 a1 a2 a3 k, LeO (laws_markRow.f k a0 a1 a2 a3) (laws_markRow.f (k + 1) a0 a1 a2 a3) := by
  intro a0 a1 a2 a3 k
  unfold laws_markRow.f
  repeat' first
      | (with_reducible exact laws_markItemS.mono _ _ _)
      | (with_reducible exact LeO.refl _)
      | (with_reducible exact LeO.none _)
      | (with_reducible refine LeO.ite ?_ ?_)
      | (with_reducible refine LeO.bind ?_ (fun _ => ?_))
      | exact laws_markItemS.mono _ _ _
      | exact LeO.none _
      | refine LeO.ite ?_ ?_
      | refine LeO.bind ?_ (fun _ => ?_)
set_option maxHeartbeats 8000000 in
set_option maxRecDepth 100000 in
theorem laws_markRow.calls (k : Nat) (a0_0 : Int) (a0_1 : Int) (P0_2_ : Nat → Prop) (u9000_ : Value) (l0_2 : List (S_Item)) (a1 : Int) (r1 : Int) (r2 : List (S_Item)) (w0 w : World) (hB : Below w0.heap.size w0 w) (ho0_2 : Kd.R k_Item 33 w w0.heap.size P0_2_ u9000_ l0_2) (h : laws_markRow.f k a0_0 a0_1 l0_2 a1 = some (r1, r2)) :
    Calls Try.prog 32 #[.agg #[.int .i64 a0_0, .int .i64 a0_1, u9000_], .int .i64 a1] w fun e w' => e = .returned (.int .i64 r1) ∧ Kd.R k_Item 33 w' w0.heap.size (fun k_ => (P0_2_ k_ ∨ w.heap.size ≤ k_)) u9000_ r2 ∧ Below w0.heap.size w0 w' ∧ Kept w w' (fun k_ => P0_2_ k_) := by
  have hu26 := Try.underlying26
  have HO0_2 := Aside0.mk (show Kd.R k_Item 33 w w0.heap.size (fun k_ => (P0_2_ k_ ∨ w.heap.size ≤ k_)) u9000_ l0_2 from Kd.R_mono ho0_2 (fun k_ hk => (.inl hk)))
  have HK := Aside0.mk (Kept.refl w (fun k_ => P0_2_ k_))
  have HW0 := Aside0.mk hB.size
  have HB := Aside0.mk hB
  clear hB
  have H : ((laws_markItemS.f k l0_2 a1).bind fun bt642 => (some (bt642.1, bt642.2))) = some (r1, r2) := h
  clear h
  replace H := Option.bind_eq_some_iff.mp H
  obtain ⟨⟨t642, t643⟩, A30, H⟩ := H
  replace H : (some (t642, t643)) = some (r1, r2) := H
  have A3 := Aside0.mk A30
  clear A30
  simp only [Option.some.injEq, Prod.mk.injEq] at H
  obtain ⟨rfl, rfl⟩ := H
  obtain ⟨Ao4, co4, eo4⟩ := Kd.R_slice HO0_2.out
  subst eo4
  go_enter Try.func32, Try.ntmps32
  go_wp2_with (first | ((with_reducible refine gate_dst (N := 2) rfl ?_); refine box_event ?hg (N := 2) ?hd (cs := #[.int .i64 a0_0, .int .i64 a0_1, .slice Ao4 l0_2.length co4]) (t := 26) ?hr ?_; (case hd => rfl); (case hg => rfl); (case hr => first | (go_simp; done) | (go_simp; rfl)); intro gb641 hg w5 hbox hb; have n0_ := Aside0.mk (Kd.R_below (by (with_reducible repeat (first | apply Kd.R_alloc | apply Kd.R_drewN | apply Kd.R_drew)); exact HO0_2.out) hb); have n1_ := Aside0.mk (Kept.below (S := (fun k_ => P0_2_ k_)) (by repeat (first | (with_reducible first | exact HK.out | apply Kept.alloc | apply Kept.drewN | apply Kept.drew) | exact HK.out)) hb); have n2_ := Aside0.mk (below_step (by repeat (first | (with_reducible first | exact HB.out | apply below_alloc | apply pw_below_drewN | apply below_drew1) | exact HB.out)) hb); have n3_ := Aside0.mk (hbox); have n4_ := Aside0.mk ((by rw [hg]; exact (by first | exact HK.out.1 | exact (show Kept w _ (fun k_ => P0_2_ k_) from by repeat (first | (with_reducible first | exact HK.out | apply Kept.alloc | apply Kept.drewN | apply Kept.drew) | exact HK.out)).1) : w.heap.size ≤ gb641)); have n5_ := Aside0.mk ((by rw [hg]; exact (below_size (by repeat (first | (with_reducible first | exact HB.out | apply below_alloc | apply pw_below_drewN | apply below_drew1) | exact HB.out))) : w0.heap.size ≤ gb641)); clear HO0_2; clear HK; clear HB; have HO0_2 := n0_; have HK := n1_; have HB := n2_; have BK641 := n3_; have GW641 := n4_; have GE641 := n5_; clear n0_ n1_ n2_ n3_ n4_ n5_; clear hb hbox hg; have hcz6_0 : w5.cell? ⟨gb641, 0, none⟩ = some (.int .i64 a0_0) := (blk_cell BK641.out 0).trans rfl; have hcz6_1 : w5.cell? ⟨gb641, 1, none⟩ = some (.int .i64 a0_1) := (blk_cell BK641.out 1).trans rfl; have hcz6_2 : w5.cell? ⟨gb641, 2, none⟩ = some (.slice Ao4 l0_2.length co4) := (blk_cell BK641.out 2).trans rfl; have hfz6_0 := blk_frozen BK641.out 0; have hfz6_1 := blk_frozen BK641.out 1; have hfz6_2 := blk_frozen BK641.out 2) | ((with_reducible refine gate_callee (f := 71) rfl ?_); refine goesL_ (some 8) rfl rfl Try.func71 (by kernel_rfl) rfl #[.slice Ao4 l0_2.length co4, .int .i64 a1] rfl (by (try simp only [List.map_toArray, List.map_cons, List.map_nil]); first | done | rfl | (simp only [List.length_drop, List.length_take]; rfl)) ?_; (with_reducible refine (laws_markItemS.calls k (fun k_ => some k_ = (.slice Ao4 l0_2.length co4 : Value).ownBlock) (.slice Ao4 l0_2.length co4) l0_2 a1 t642 t643 w0 _ ?side1 ?side2 A3.out).mono ?_); (case side1 => repeat (first | (with_reducible first | exact HB.out | apply below_alloc | apply pw_below_drewN | apply below_drew1 | refine below_set ?_ GE641.out) | exact HB.out)); (case side2 => exact Kd.R_tight rfl HO0_2.out); rintro e w7 ⟨rfl, hy0, hb, hkp⟩; refine ⟨_, rfl, ?_⟩; have n0_ := Aside0.mk (Kd.R_reok rfl hy0 (fun k_ e_ => HO0_2.out.1 k_ e_)); have n1_ := Aside0.mk (blk_kept (by (with_reducible repeat (first | refine blk_drewN ?_ _ | refine blk_drew ?_ | refine blk_alloc ?_ _)); exact BK641.out) hkp (fun hs_ => (fun e_ => (Kd.R_ne HO0_2.out BK641.out (by decide)) e_) hs_)); have n2_ := Aside0.mk (Kept.then_ (S := (fun k_ => P0_2_ k_)) (by repeat (first | (with_reducible first | exact HK.out | apply Kept.alloc | apply Kept.drewN | apply Kept.drew | refine Kept.setCell ?_ (.inr GW641.out) _) | exact HK.out)) hkp (fun k_ hs_ => (fun e_ => (HO0_2.out.1 k_ e_.symm)) hs_)); have n3_ := Aside0.mk (hb); clear HO0_2; clear BK641; clear HK; clear HB; have HO0_2 := n0_; have BK641 := n1_; have HK := n2_; have HB := n3_; clear n0_ n1_ n2_ n3_; (try clear hb); (try clear hkp); (try clear hy0)))
  go_ret
  exact ⟨by first | rfl | (simp [errW_none, errW_some] <;> rfl) | (simp [*, errW_none, errW_some] <;> rfl), by (with_reducible repeat (first | apply Kd.R_alloc | apply Kd.R_drewN | apply Kd.R_drew)); exact HO0_2.out, by repeat (first | (with_reducible first | exact HB.out | apply below_alloc | apply pw_below_drewN | apply below_drew1 | refine below_set ?_ GE641.out) | exact HB.out), by repeat (first | (with_reducible first | exact HK.out | apply Kept.alloc | apply Kept.drewN | apply Kept.drew | refine Kept.setCell ?_ (.inr GW641.out) _) | exact HK.out)⟩

/-! ### laws_heldRow: function 33 -/
def laws_heldRow.f (k : Nat) (a0_0 : Int) (a0_1 : Int) (l0_2 : List (S_Item)) (a1 : Int) : Option (Int) := (laws_heldItemS.f k l0_2 a1).bind fun t645 => (if t645 < 0 then (some (-1)) else (some t645))
theorem laws_heldRow.mono : ∀ a0 a1 a2 a3 k, LeO (laws_heldRow.f k a0 a1 a2 a3) (laws_heldRow.f (k + 1) a0 a1 a2 a3) := by
  intro a0 a1 a2 a3 k
  unfold laws_heldRow.f
  repeat' first
      | (with_reducible exact laws_heldItemS.mono _ _ _)
      | (with_reducible exact LeO.refl _)
      | (with_reducible exact LeO.none _)
      | (with_reducible refine LeO.ite ?_ ?_)
      | (with_reducible refine LeO.bind ?_ (fun _ => ?_))
      | exact laws_heldItemS.mono _ _ _
      | exact LeO.none _
      | refine LeO.ite ?_ ?_
      | refine LeO.bind ?_ (fun _ => ?_)
set_option maxHeartbeats 8000000 in
set_option maxRecDepth 100000 in
theorem laws_heldRow.calls (k : Nat) (a0_0 : Int) (a0_1 : Int) (A0_2 : Option Addr) (c0_2 : Nat) (l0_2 : List (S_Item)) (a1 : Int) (r : Int) (w : World) (hr0_2 : Kd.C k_Item w A0_2 l0_2.length l0_2) (hc0_2 : l0_2.length ≤ c0_2) (h : laws_heldRow.f k a0_0 a0_1 l0_2 a1 = some r) :
    Calls Try.prog 33 #[.agg #[.int .i64 a0_0, .int .i64 a0_1, .slice A0_2 l0_2.length c0_2], .int .i64 a1] w fun e w' => e = .returned (.int .i64 r) ∧ Below w.heap.size w w' := by
  have hu26 := Try.underlying26
  have HR0_2 := Aside0.mk hr0_2
  have HC0_2 := Aside0.mk hc0_2
  clear hr0_2 hc0_2
  have HB := Aside0.mk (Below.refl w.heap.size w)
  have H : ((laws_heldItemS.f k l0_2 a1).bind fun t645 => (if t645 < 0 then (some (-1)) else (some t645))) = some r := h
  clear h
  replace H := Option.bind_eq_some_iff.mp H
  obtain ⟨t645, A30, H⟩ := H
  replace H : (if t645 < 0 then (some (-1)) else (some t645)) = some r := H
  have A3 := Aside0.mk A30
  clear A30
  by_cases c4 : t645 < 0
  · rw [if_pos c4] at H
    have c4b0 : decide (t645 < 0) = true := decide_eq_true c4
    clear c4
    obtain rfl := Option.some.inj H
    go_enter Try.func33, Try.ntmps33
    go_wp2_with (first | ((with_reducible refine gate_dst (N := 2) rfl ?_); refine box_event ?hg (N := 2) ?hd (cs := #[.int .i64 a0_0, .int .i64 a0_1, .slice A0_2 l0_2.length c0_2]) (t := 26) ?hr ?_; (case hd => rfl); (case hg => rfl); (case hr => first | (go_simp; done) | (go_simp; rfl)); intro gb644 hg w5 hbox hb; have n0_ := Aside0.mk (below_step (by repeat (first | (with_reducible first | exact HB.out | apply below_alloc | apply pw_below_drewN | apply below_drew1) | exact HB.out)) hb); have n1_ := Aside0.mk (hbox); have n2_ := Aside0.mk ((by rw [hg]; exact (below_size (by repeat (first | (with_reducible first | exact HB.out | apply below_alloc | apply pw_below_drewN | apply below_drew1) | exact HB.out))) : w.heap.size ≤ gb644)); have n3_ := Aside0.mk ((by rw [hg]; exact (below_size (by repeat (first | (with_reducible first | exact HB.out | apply below_alloc | apply pw_below_drewN | apply below_drew1) | exact HB.out))) : w.heap.size ≤ gb644)); clear HB; have HB := n0_; have BK644 := n1_; have GW644 := n2_; have GE644 := n3_; clear n0_ n1_ n2_ n3_; clear hb hbox hg; have hcz6_0 : w5.cell? ⟨gb644, 0, none⟩ = some (.int .i64 a0_0) := (blk_cell BK644.out 0).trans rfl; have hcz6_1 : w5.cell? ⟨gb644, 1, none⟩ = some (.int .i64 a0_1) := (blk_cell BK644.out 1).trans rfl; have hcz6_2 : w5.cell? ⟨gb644, 2, none⟩ = some (.slice A0_2 l0_2.length c0_2) := (blk_cell BK644.out 2).trans rfl; have hfz6_0 := blk_frozen BK644.out 0; have hfz6_1 := blk_frozen BK644.out 1; have hfz6_2 := blk_frozen BK644.out 2) | ((with_reducible refine gate_callee (f := 72) rfl ?_); refine goesL_ (some 8) rfl rfl Try.func72 (by kernel_rfl) rfl #[.slice A0_2 l0_2.length c0_2, .int .i64 a1] rfl (by (try simp only [List.map_toArray, List.map_cons, List.map_nil]); first | done | rfl | (simp only [List.length_drop, List.length_take]; rfl)) ?_; (with_reducible refine (laws_heldItemS.calls k _ _ l0_2 a1 t645 _ ?side1 ?side2 A3.out).mono ?_); (case side1 => repeat (first | exact (Kd.C_below HR0_2.out HB.out) | (with_reducible refine Kd.C_alloc ?_ _) | (with_reducible refine Kd.C_drewN ?_ _) | (with_reducible refine Kd.C_drew ?_))); (case side2 => exact HC0_2.out); rintro e w7 ⟨rfl, hb⟩; refine ⟨_, rfl, ?_⟩; have n0_ := Aside0.mk (blk_below (g := gb644) (o := .cells #[.int .i64 a0_0, .int .i64 a0_1, .slice A0_2 l0_2.length c0_2] 26 (0, 0)) (by (with_reducible repeat (first | refine blk_drewN ?_ _ | refine blk_drew ?_ | refine blk_alloc ?_ _)); exact BK644.out) hb); have n1_ := Aside0.mk (below_step (by repeat (first | (with_reducible first | exact HB.out | apply below_alloc | apply pw_below_drewN | apply below_drew1 | refine below_set ?_ GE644.out) | exact HB.out)) hb); clear BK644; clear HB; have BK644 := n0_; have HB := n1_; clear n0_ n1_; (try clear hb); (try clear hb2); (try clear hk); (try clear hi)))
    go_ret
    exact ⟨by first | rfl | (simp [errW_none, errW_some] <;> rfl) | (simp [*, errW_none, errW_some] <;> rfl), by repeat (first | (with_reducible first | exact HB.out | apply below_alloc | apply pw_below_drewN | apply below_drew1 | refine below_set ?_ GE644.out) | exact HB.out)⟩
  · rw [if_neg c4] at H
    have c4b0 : decide (t645 < 0) = false := decide_eq_false c4
    clear c4
    obtain rfl := Option.some.inj H
    go_enter Try.func33, Try.ntmps33
    go_wp2_with (first | ((with_reducible refine gate_dst (N := 2) rfl ?_); refine box_event ?hg (N := 2) ?hd (cs := #[.int .i64 a0_0, .int .i64 a0_1, .slice A0_2 l0_2.length c0_2]) (t := 26) ?hr ?_; (case hd => rfl); (case hg => rfl); (case hr => first | (go_simp; done) | (go_simp; rfl)); intro gb644 hg w8 hbox hb; have n0_ := Aside0.mk (below_step (by repeat (first | (with_reducible first | exact HB.out | apply below_alloc | apply pw_below_drewN | apply below_drew1) | exact HB.out)) hb); have n1_ := Aside0.mk (hbox); have n2_ := Aside0.mk ((by rw [hg]; exact (below_size (by repeat (first | (with_reducible first | exact HB.out | apply below_alloc | apply pw_below_drewN | apply below_drew1) | exact HB.out))) : w.heap.size ≤ gb644)); have n3_ := Aside0.mk ((by rw [hg]; exact (below_size (by repeat (first | (with_reducible first | exact HB.out | apply below_alloc | apply pw_below_drewN | apply below_drew1) | exact HB.out))) : w.heap.size ≤ gb644)); clear HB; have HB := n0_; have BK644 := n1_; have GW644 := n2_; have GE644 := n3_; clear n0_ n1_ n2_ n3_; clear hb hbox hg; have hcz9_0 : w8.cell? ⟨gb644, 0, none⟩ = some (.int .i64 a0_0) := (blk_cell BK644.out 0).trans rfl; have hcz9_1 : w8.cell? ⟨gb644, 1, none⟩ = some (.int .i64 a0_1) := (blk_cell BK644.out 1).trans rfl; have hcz9_2 : w8.cell? ⟨gb644, 2, none⟩ = some (.slice A0_2 l0_2.length c0_2) := (blk_cell BK644.out 2).trans rfl; have hfz9_0 := blk_frozen BK644.out 0; have hfz9_1 := blk_frozen BK644.out 1; have hfz9_2 := blk_frozen BK644.out 2) | ((with_reducible refine gate_callee (f := 72) rfl ?_); refine goesL_ (some 8) rfl rfl Try.func72 (by kernel_rfl) rfl #[.slice A0_2 l0_2.length c0_2, .int .i64 a1] rfl (by (try simp only [List.map_toArray, List.map_cons, List.map_nil]); first | done | rfl | (simp only [List.length_drop, List.length_take]; rfl)) ?_; (with_reducible refine (laws_heldItemS.calls k _ _ l0_2 a1 t645 _ ?side1 ?side2 A3.out).mono ?_); (case side1 => repeat (first | exact (Kd.C_below HR0_2.out HB.out) | (with_reducible refine Kd.C_alloc ?_ _) | (with_reducible refine Kd.C_drewN ?_ _) | (with_reducible refine Kd.C_drew ?_))); (case side2 => exact HC0_2.out); rintro e w10 ⟨rfl, hb⟩; refine ⟨_, rfl, ?_⟩; have n0_ := Aside0.mk (blk_below (g := gb644) (o := .cells #[.int .i64 a0_0, .int .i64 a0_1, .slice A0_2 l0_2.length c0_2] 26 (0, 0)) (by (with_reducible repeat (first | refine blk_drewN ?_ _ | refine blk_drew ?_ | refine blk_alloc ?_ _)); exact BK644.out) hb); have n1_ := Aside0.mk (below_step (by repeat (first | (with_reducible first | exact HB.out | apply below_alloc | apply pw_below_drewN | apply below_drew1 | refine below_set ?_ GE644.out) | exact HB.out)) hb); clear BK644; clear HB; have BK644 := n0_; have HB := n1_; clear n0_ n1_; (try clear hb); (try clear hb2); (try clear hk); (try clear hi)))
    go_ret
    exact ⟨by first | rfl | (simp [errW_none, errW_some] <;> rfl) | (simp [*, errW_none, errW_some] <;> rfl), by repeat (first | (with_reducible first | exact HB.out | apply below_alloc | apply pw_below_drewN | apply below_drew1 | refine below_set ?_ GE644.out) | exact HB.out)⟩

/-! ### slices_DeleteFunc_RowTrim: function 54 -/
-- IMPORT Derived.Shelf.Abstract
-- IMPORT Derived.Lib.SliceRun
def hitT (n bk : Int) (x : S_Item) : Bool := wrap64 (Int.tdiv x.f0 n) == bk
/-- the place of the first item of a block, from i on; or -1 -/
def hitAt (n bk : Int) (l : List S_Item) : Nat → Nat → Int
  | 0, _ => -1
  | d + 1, i => if hitT n bk (rd_Item l (i : Int)) = true then (i : Int) else hitAt n bk l d (i + 1)
set_option maxHeartbeats 8000000 in
theorem trimHit (gl gb : Nat) (n bk : Int) (hn : 1 ≤ n) (y0 : Int) (y1 y2 : ByteArray) (y3 y4 : Int) (W : World) (h1 : W.heap[gl]? = some (.cells #[.int .i64 n] 3 (0, 0))) (h2 : W.heap[gb]? = some (.cells #[.int .i64 bk] 3 (0, 0))) :
    Calls Try.prog 55 #[.agg #[.int .i64 y0, .string y1, .string y2, .int .i64 y3, .int .i64 y4], .pointer (some ⟨gl, 0, none⟩), .pointer (some ⟨gb, 0, none⟩)] W fun e w' => e = .returned (.bool (wrap64 (Int.tdiv y0 n) == bk)) ∧ Below W.heap.size W w' := by
  have hu := Try.underlying33
  have c1 : W.cell? ⟨gl, 0, none⟩ = some (.int .i64 n) := (blk_cell h1 0).trans rfl
  have c2 : W.cell? ⟨gb, 0, none⟩ = some (.int .i64 bk) := (blk_cell h2 0).trans rfl
  have l1 : gl < W.heap.size := blk_lt h1
  have l2 : gb < W.heap.size := blk_lt h2
  have e1 : gl ≠ W.heap.size := by omega
  have e2 : gb ≠ W.heap.size := by omega
  have hz : ¬ n = 0 := by omega
  have hz2 : (n == 0) = false := by simp [hz]
  clear h1 h2
  go_enter Try.func55, Try.ntmps55
  go_wp2
  go_quiet (fail)
  go_wp2
  go_ret
  exact ⟨by first | rfl | (simp; done) | (simp [*]; done), by repeat (first | exact Below.refl _ _ | apply below_alloc | apply pw_below_drewN | apply below_drew1)⟩
set_option maxHeartbeats 8000000 in
set_option maxRecDepth 100000 in
theorem trimIdx (gl gb : Nat) (n bk : Int) (hn1 : 1 ≤ n) (A : Option Addr) (c : Nat) (l : List S_Item) (w : World) (h1 : w.heap[gl]? = some (.cells #[.int .i64 n] 3 (0, 0))) (h2 : w.heap[gb]? = some (.cells #[.int .i64 bk] 3 (0, 0))) (hr : Kd.C k_Item w A l.length l) :
    Calls Try.prog 99 #[.slice A l.length c, .func (.func 55) #[] #[.pointer (some ⟨gl, 0, none⟩), .pointer (some ⟨gb, 0, none⟩)]] w fun e w' => e = .returned (.int .i64 (hitAt n bk l l.length 0)) ∧ Below w.heap.size w w' := by
  have eC : ∀ args w, (callFunc 55 args).run Try.prog w = .ok (.enter 55 args) w := enters_of Try.func55 (by kernel_rfl) rfl
  have hu := Try.underlying33
  have HN := Aside0.mk (Kd.C_max hr)
  have HX := Aside0.mk h1
  have HY := Aside0.mk h2
  have HR := Aside0.mk hr
  have HL := Aside0.mk hn1
  clear h1 h2 hr hn1
  go_enter Try.func99, Try.ntmps99
  go_wp2
  go_loopg [5, 8] l.length (fun gg _ s8 wr => ∃ kk : Nat, kk ≤ l.length ∧ l.length - kk ≤ gg ∧ s8 = .int .i64 kk ∧ Aside0 (Below w.heap.size w wr) ∧ Aside0 (hitAt n bk l l.length 0 = hitAt n bk l (l.length - kk) kk))
  case atStart => exact ⟨0, Nat.zero_le _, by omega, rfl, ⟨Below.refl _ w⟩, ⟨rfl⟩⟩
  case round =>
    obtain ⟨kk, hkk, hg, rfl, BW, AX⟩ := hrel
    have hn := HN.out
    by_cases hlt : kk < l.length
    · have hltz : (kk : Int) < (l.length : Int) := by omega
      obtain ⟨ad, rfl, h0, h1, h2, h3, h4⟩ := at_Item HR.out (kk : Int) (by omega) hltz
      replace h0 := pw_cell_below BW.out h0
      replace h1 := pw_cell_below BW.out h1
      replace h2 := pw_cell_below BW.out h2
      replace h3 := pw_cell_below BW.out h3
      replace h4 := pw_cell_below BW.out h4
      simp only [Int.toNat_natCast] at h0 h1 h2 h3 h4
      have hcall := trimHit gl gb n bk HL.out (rd_Item l (kk : Int)).f0 (rd_Item l (kk : Int)).f1 (rd_Item l (kk : Int)).f2 (rd_Item l (kk : Int)).f3 (rd_Item l (kk : Int)).f4 wr (blk_below HX.out BW.out) (blk_below HY.out BW.out)
      cases hq : (wrap64 (Int.tdiv (rd_Item l (kk : Int)).f0 n) == bk) with
      | true =>
        rw [hq] at hcall
        have E : Aside0 (hitAt n bk l l.length 0 = (kk : Int)) := ⟨by
          rw [AX.out, show l.length - kk = (l.length - kk - 1) + 1 by omega]
          unfold hitAt
          exact if_pos hq⟩
        clear AX hq HX HY
        go_wp2_with (go_at_fn 55; refine hcall.mono ?_; rintro e w' ⟨rfl, hb'⟩)
        go_ret
        exact ⟨by rw [E.out]; rfl, below_step BW.out hb'⟩
      | false =>
        rw [hq] at hcall
        have e : hitAt n bk l (l.length - kk) kk = hitAt n bk l (l.length - (kk + 1)) (kk + 1) := by
          rw [show l.length - kk = (l.length - (kk + 1)) + 1 by omega]
          show (if _ then _ else _) = _
          rw [if_neg (by unfold hitT; rw [hq]; simp)]
        have E := Aside0.mk (AX.out.trans e)
        clear e AX hq
        go_wp2_with (go_at_fn 55; refine hcall.mono ?_; rintro e w' ⟨rfl, hb'⟩)
        go_roundg (l.length - (kk + 1))
        case measure => omega
        case rel => exact ⟨kk + 1, by omega, by omega, by go_num, ⟨below_step BW.out hb'⟩, E⟩
    · have hltz : ¬ (kk : Int) < (l.length : Int) := by omega
      have E : Aside0 (hitAt n bk l l.length 0 = -1) := ⟨by
        rw [AX.out, show l.length - kk = 0 by omega]
        rfl⟩
      clear AX
      go_wp2
      go_ret
      exact ⟨by rw [E.out]; rfl, BW.out⟩
theorem hitAt_from (n bk : Int) (l : List S_Item) : ∀ (d i : Nat), i + d = l.length → (hitAt n bk l d i = -1 ∧ ∀ x ∈ l.drop i, hitT n bk x = false) ∨ ∃ k, i ≤ k ∧ k < l.length ∧ hitAt n bk l d i = (k : Int) ∧ hitT n bk (rd_Item l (k : Int)) = true ∧ ∀ x ∈ (l.take k).drop i, hitT n bk x = false := by
  intro d
  induction d with
  | zero => intro i h; exact .inl ⟨rfl, fun x hx => by rw [List.drop_eq_nil_of_le (by omega)] at hx; cases hx⟩
  | succ d ih =>
    intro i h
    have hd : l.drop i = rd_Item l (i : Int) :: l.drop (i + 1) := by
      rw [List.drop_eq_getElem_cons (by omega : i < l.length)]
      simp [rd_Item, List.getD_eq_getElem?_getD, List.getElem?_eq_getElem (by omega : i < l.length)]
    unfold hitAt
    cases q : hitT n bk (rd_Item l (i : Int)) with
    | true => exact .inr ⟨i, Nat.le_refl _, by omega, if_pos rfl, q, fun x hx => by rw [List.drop_eq_nil_of_le (by rw [List.length_take]; omega)] at hx; cases hx⟩
    | false =>
      rw [if_neg (by simp)]
      rcases ih (i + 1) (by omega) with ⟨e, ha⟩ | ⟨k, h1, h2, e, ht, ha⟩
      · refine .inl ⟨e, fun x hx => ?_⟩
        rw [hd] at hx
        rcases List.mem_cons.1 hx with rfl | hx
        · exact q
        · exact ha x hx
      · refine .inr ⟨k, by omega, h2, e, ht, fun x hx => ?_⟩
        rw [List.drop_take, hd, show k - i = (k - (i + 1)) + 1 by omega, List.take_succ_cons] at hx
        rcases List.mem_cons.1 hx with rfl | hx
        · exact q
        · exact ha x (by rw [List.drop_take]; exact hx)
/-- what trimming one block leaves -/
def kept (n bk : Int) (l : List S_Item) : List S_Item := l.filter fun x => !hitT n bk x
theorem kept_all {n bk : Int} {l : List S_Item} (h : ∀ x ∈ l, hitT n bk x = false) : kept n bk l = l := List.filter_eq_self.2 fun x hx => by rw [h x hx]; rfl
/-- the walk's relation: j items are looked at, i of them kept -/
structure KeepI (n bk : Int) (l : List S_Item) (i j : Nat) (dk : List S_Item) : Prop where
  len : dk.length = l.length
  lt : i < j
  low : dk.take i = kept n bk (l.take j)
  high : dk.drop j = l.drop j
theorem KeepI.start {n bk : Int} {l : List S_Item} {k : Nat} (hk : k < l.length) (ht : hitT n bk (rd_Item l (k : Int)) = true) (ha : ∀ x ∈ l.take k, hitT n bk x = false) : KeepI n bk l k (k + 1) l where
  len := rfl
  lt := Nat.lt_succ_self _
  low := by
    rw [List.take_succ_eq_append_getElem hk]
    unfold kept
    rw [List.filter_append, show (l.take k).filter (fun x => !hitT n bk x) = l.take k from kept_all ha]
    have e : rd_Item l (k : Int) = l[k] := by simp [rd_Item, List.getD_eq_getElem?_getD, List.getElem?_eq_getElem hk]
    rw [e] at ht
    simp [ht]
  high := rfl
theorem KeepI.at_ {n bk : Int} {l dk : List S_Item} {i j : Nat} (h : KeepI n bk l i j dk) : rd_Item dk (j : Int) = rd_Item l (j : Int) := by
  have e : ∀ (m : List S_Item), rd_Item m (j : Int) = ((m.drop j)[0]?).getD z_Item := fun m => by simp [rd_Item, List.getD_eq_getElem?_getD]
  rw [e, e, h.high]
theorem KeepI.keep {n bk : Int} {l dk : List S_Item} {i j : Nat} (h : KeepI n bk l i j dk) (hj : j < l.length) (hk : hitT n bk (rd_Item l (j : Int)) = false) : KeepI n bk l (i + 1) (j + 1) (dk.set i (rd_Item l (j : Int))) where
  len := by rw [List.length_set]; exact h.len
  lt := by have := h.lt; omega
  low := by
    have hl := h.len
    have ht := h.lt
    have e : rd_Item l (j : Int) = l[j] := by simp [rd_Item, List.getD_eq_getElem?_getD, List.getElem?_eq_getElem hj]
    rw [List.take_succ_eq_append_getElem hj, List.take_succ_eq_append_getElem (by rw [List.length_set]; omega), List.take_set_of_le (Nat.le_refl _), List.getElem_set_self, h.low]
    unfold kept
    rw [List.filter_append]
    rw [e] at hk ⊢
    simp [hk]
  high := by
    rw [List.drop_set_of_lt (by have := h.lt; omega)]
    have := congrArg (List.drop 1) h.high
    rwa [List.drop_drop, List.drop_drop] at this
theorem KeepI.skip {n bk : Int} {l dk : List S_Item} {i j : Nat} (h : KeepI n bk l i j dk) (hj : j < l.length) (hk : hitT n bk (rd_Item l (j : Int)) = true) : KeepI n bk l i (j + 1) dk where
  len := h.len
  lt := by have := h.lt; omega
  low := by
    have e : rd_Item l (j : Int) = l[j] := by simp [rd_Item, List.getD_eq_getElem?_getD, List.getElem?_eq_getElem hj]
    rw [h.low, List.take_succ_eq_append_getElem hj]
    unfold kept
    rw [List.filter_append]
    rw [e] at hk
    simp [hk]
  high := by
    have := congrArg (List.drop 1) h.high
    rwa [List.drop_drop, List.drop_drop] at this
theorem setCells_app (b : Nat) : ∀ (L M : List Value) (o : Nat) (w : World), w.setCells b o (L ++ M) = (w.setCells b o L).setCells b (o + L.length) M
  | [], M, o, w => by simp [World.setCells]
  | v :: L, M, o, w => by
    rw [List.cons_append, World.setCells, World.setCells, setCells_app b L M (o + 1), List.length_cons, show o + 1 + L.length = o + (L.length + 1) by omega]
/-- items from i on are made zero: the row is still one, its head as it was -/
theorem zero_tail {e base g cap : Nat} {ok : Nat → Prop} : ∀ (m i : Nat) (w : World) (dk : List S_Item), i + m = dk.length → Kd.R k_Item e w base ok (.slice (some ⟨g, 0, none⟩) dk.length cap) dk →
    ∃ dk', dk'.length = dk.length ∧ dk'.take i = dk.take i ∧ Kd.R k_Item e (w.setCells g (i * 5) (List.replicate m [Value.int .i64 0, .string ⟨#[]⟩, .string ⟨#[]⟩, .int .i64 0, .int .i64 0]).flatten) base ok (.slice (some ⟨g, 0, none⟩) dk.length cap) dk' ∧ w.grownBy (w.setCells g (i * 5) (List.replicate m [Value.int .i64 0, .string ⟨#[]⟩, .string ⟨#[]⟩, .int .i64 0, .int .i64 0]).flatten) (some g) := by
  intro m
  induction m with
  | zero => intro i w dk h hr; exact ⟨dk, rfl, rfl, hr, World.grownBy.refl _ _⟩
  | succ m ih =>
    intro i w dk h hr
    obtain ⟨c, hcl, hM, hcc, hfr⟩ := Kd.R_elem hr z_Item (i : Int) (by omega) (by omega)
    obtain rfl := k_Item_openM hM
    have HP := Kd.R_seg hr (i : Int) (by omega) (by omega) (seg := [.int .i64 0, .string ⟨#[]⟩, .string ⟨#[]⟩, .int .i64 0, .int .i64 0]) (j := 0) hcl hcc (show 5 ≤ 5 from by decide) (x' := z_Item) (k_Item_mkM _ _ _ z_Item) (fun _ hk => hk)
    rw [Int.toNat_natCast, Nat.add_zero, show (k_Item).sz = 5 from rfl] at HP
    have hl : (dk.set i z_Item).length = dk.length := List.length_set
    have H1 := HP.1
    rw [← hl] at H1
    obtain ⟨dk', e1, e2, e3, e4⟩ := ih (i + 1) _ (dk.set i z_Item) (by omega) H1
    rw [hl] at e1 e3
    refine ⟨dk', e1, ?_, ?_, ?_⟩
    · have := congrArg (List.take i) e2
      rwa [List.take_take, List.take_take, Nat.min_eq_left (by omega), List.take_set_of_le (Nat.le_refl _)] at this
    · rw [List.replicate_succ, List.flatten_cons, setCells_app]
      rw [show (i + 1) * 5 = i * 5 + [Value.int .i64 0, .string ⟨#[]⟩, .string ⟨#[]⟩, .int .i64 0, .int .i64 0].length by simp; omega] at e3
      exact e3
    · rw [List.replicate_succ, List.flatten_cons, setCells_app]
      rw [show (i + 1) * 5 = i * 5 + [Value.int .i64 0, .string ⟨#[]⟩, .string ⟨#[]⟩, .int .i64 0, .int .i64 0].length by simp; omega] at e4
      exact HP.2.trans e4
theorem zeros5 (a b c d e : Value) (n : Nat) : (Builtin.zeroCells #[a, b, c, d, e] n).toList = (List.replicate n [a, b, c, d, e]).flatten := by
  have h : (Builtin.zeroCells #[a, b, c, d, e] n).toList = (List.range (n * 5)).map fun i => (#[a, b, c, d, e] : Array Value)[i % 5]! := by simp [Builtin.zeroCells, Array.toList_range]
  rw [h]
  clear h
  induction n with
  | zero => rfl
  | succ n ih =>
    rw [List.replicate_succ', List.flatten_append, ← ih, show (n + 1) * 5 = n * 5 + 1 + 1 + 1 + 1 + 1 by omega]
    simp only [List.range_succ, List.map_append, List.map_cons, List.map_nil, List.append_assoc]
    rw [show (n * 5) % 5 = 0 by omega, show (n * 5 + 1) % 5 = 1 by omega, show (n * 5 + 1 + 1) % 5 = 2 by omega, show (n * 5 + 1 + 1 + 1) % 5 = 3 by omega, show (n * 5 + 1 + 1 + 1 + 1) % 5 = 4 by omega]
    rfl
theorem run_clear_rows {P : Program} (w : World) (t e ty : TypeId) (z : Value) (L : List Value) (ht : P.underlying t = some (.slice e)) (hv : ∀ w, (zeroValue e).run P w = .ok z w) (b o n c : Nat) (hn : 0 < n) (hL : (Builtin.zeroCells z.cells n).toList = L) (h1 : ∀ v ∈ L, v.oneCell' = true)
    (hc : ∀ j, j < L.length → (w.cell? ⟨b, o + j, none⟩).isSome = true) (hf : ∀ j, j < L.length → w.frozen? ⟨b, o + j, none⟩ = false) :
    (Builtin.clear_ #[t] ty #[.slice (some ⟨b, o, none⟩) n c]).run P w = .ok (.tuple #[]) (w.setCells b o L) := by
  have hst := Go.run_storeCells_cells (P := P) b o L 0 w (by simpa using hc) (by simpa using hf) h1
  simp only [Nat.add_zero] at hst
  obtain ⟨m, rfl⟩ : ∃ m, n = m + 1 := ⟨n - 1, by omega⟩
  simp [Builtin.clear_, run_underlying ht, hv, hL, hst]
theorem zero_33 (w : World) : (zeroValue 33).run Try.prog w = .ok (.agg #[.int .i64 0, .string ⟨#[]⟩, .string ⟨#[]⟩, .int .i64 0, .int .i64 0]) w := by
  obtain ⟨i0, hi, hzz⟩ := Option.map_eq_some_iff.1 info33
  simp only [Prod.mk.injEq] at hzz
  simp [zeroValue, typeInfo, hi, hzz.1]
theorem flat5_length (n : Nat) (a b c d e : Value) : (List.replicate n [a, b, c, d, e]).flatten.length = n * 5 := by
  induction n with
  | zero => rfl
  | succ n ih => rw [List.replicate_succ, List.flatten_cons, List.length_append, ih]; simp; omega
/-- the clear of items from i on -/
theorem clear_items {base g c : Nat} {ok : Nat → Prop} {w : World} {dk : List S_Item} (hr : Kd.R k_Item 33 w base ok (.slice (some ⟨g, 0, none⟩) dk.length c) dk) (i : Nat) (hi : i < dk.length) (ty : TypeId) :
    ∃ w1, (∀ m, m = dk.length - i → ∀ cc, (Builtin.clear_ #[24] ty #[.slice (some ⟨g, i * 5, none⟩) m cc]).run Try.prog w = .ok (.tuple #[]) w1) ∧ Kd.R k_Item 33 w1 base ok (.slice (some ⟨g, 0, none⟩) i c) (dk.take i) ∧ w.grownBy w1 (some g) := by
  obtain ⟨dk', e1, e2, e3, e4⟩ := zero_tail (dk.length - i) i w dk (by omega) hr
  refine ⟨_, ?_, ?_, e4⟩
  · rintro m rfl cc
    have hcell : ∀ j, j < (List.replicate (dk.length - i) [Value.int .i64 0, .string ⟨#[]⟩, .string ⟨#[]⟩, .int .i64 0, .int .i64 0]).flatten.length → (w.cell? ⟨g, i * 5 + j, none⟩).isSome = true ∧ w.frozen? ⟨g, i * 5 + j, none⟩ = false := by
      intro j hj
      rw [flat5_length] at hj
      obtain ⟨c', hcl, hM, hcc, hfr⟩ := Kd.R_elem hr z_Item ((i + j / 5 : Nat) : Int) (by omega) (by omega)
      have h5 : j % 5 < c'.length := by rw [hcl]; show j % 5 < 5; omega
      have := hcc (j % 5) _ (List.getElem?_eq_getElem h5)
      have h6 := hfr (j % 5)
      rw [Int.toNat_natCast, show (k_Item).sz = 5 from rfl, show (i + j / 5) * 5 + j % 5 = i * 5 + j by omega] at this h6
      exact ⟨by rw [this]; rfl, h6⟩
    refine run_clear_rows w 24 33 ty _ _ Try.underlying24 zero_33 g (i * 5) _ _ (by omega) (zeros5 _ _ _ _ _ _) ?_ (fun j hj => (hcell j hj).1) (fun j hj => (hcell j hj).2)
    intro v hv
    obtain ⟨l, hl, hv⟩ := List.mem_flatten.1 hv
    rw [(List.mem_replicate.1 hl).2] at hv
    simp only [List.mem_cons, List.not_mem_nil, or_false] at hv
    rcases hv with rfl | rfl | rfl | rfl | rfl <;> rfl
  · rw [← e2]
    exact Kd.R_take e3 (by omega)
set_option maxHeartbeats 16000000 in
set_option maxRecDepth 100000 in
theorem trimDel (gl gb : Nat) (n bk : Int) (hn1 : 1 ≤ n) (base : Nat) (ok : Nat → Prop) (g c : Nat) (l : List S_Item) (w : World) (h1 : w.heap[gl]? = some (.cells #[.int .i64 n] 3 (0, 0))) (h2 : w.heap[gb]? = some (.cells #[.int .i64 bk] 3 (0, 0))) (ho : Kd.R k_Item 33 w base ok (.slice (some ⟨g, 0, none⟩) l.length c) l) :
    Calls Try.prog 54 #[.slice (some ⟨g, 0, none⟩) l.length c, .func (.func 55) #[] #[.pointer (some ⟨gl, 0, none⟩), .pointer (some ⟨gb, 0, none⟩)]] w fun e w' => e = .returned (.slice (some ⟨g, 0, none⟩) (kept n bk l).length c) ∧ Kd.R k_Item 33 w' base ok (.slice (some ⟨g, 0, none⟩) (kept n bk l).length c) (kept n bk l) ∧ w.grownBy w' (some g) := by
  have eC : ∀ args w, (callFunc 55 args).run Try.prog w = .ok (.enter 55 args) w := enters_of Try.func55 (by kernel_rfl) rfl
  have hu := Try.underlying33
  have HC := (Kd.R_reads' ho).2.2
  have HI := Aside0.mk (trimIdx gl gb n bk hn1 (some ⟨g, 0, none⟩) c l w h1 h2 HC)
  have HN := Aside0.mk (Kd.C_max HC)
  have NL : Aside0 (some gl ≠ (some g : Option Nat)) := ⟨fun e => Kd.R_ne ho h1 (by decide) (by rw [e]; simp [Value.ownBlock])⟩
  have NB : Aside0 (some gb ≠ (some g : Option Nat)) := ⟨fun e => Kd.R_ne ho h2 (by decide) (by rw [e]; simp [Value.ownBlock])⟩
  have HX := Aside0.mk h1
  have HY := Aside0.mk h2
  have HO := Aside0.mk ho
  have HL := Aside0.mk hn1
  clear h1 h2 ho hn1 HC
  rcases hitAt_from n bk l l.length 0 (by omega) with ⟨e0, hall⟩ | ⟨k0, _, hk0, e0, ht, hall⟩
  · rw [e0] at HI
    rw [List.drop_zero] at hall
    have E := Aside0.mk (kept_all hall)
    clear e0 hall
    go_enter Try.func54, Try.ntmps54
    go_wp2_with (go_at_call 99; refine HI.out.mono ?_; rintro e w' ⟨rfl, hb'⟩)
    go_ret
    rw [E.out]
    exact ⟨rfl, Kd.R_below HO.out hb', grown_of_below hb' _⟩
  · rw [e0] at HI
    rw [List.drop_zero] at hall
    have I0 := Aside0.mk (KeepI.start hk0 ht hall)
    have hne1 : ((k0 : Int) == -1) = false := beq_eq_false_iff_ne.2 (by omega)
    have hn := HN.out
    clear e0 ht hall
    go_enter Try.func54, Try.ntmps54
    go_wp2_with (go_at_call 99; refine HI.out.mono ?_; rintro e w' ⟨rfl, hb'⟩)
    go_loopg [5, 6, 7] l.length (fun gg s5 s6 _ wr => ∃ (i j : Nat) (dk : List S_Item), s5 = .int .i64 i ∧ s6 = .int .i64 j ∧ j ≤ l.length ∧ l.length - j ≤ gg ∧ Aside0 (w.grownBy wr (some g)) ∧ Aside0 (Kd.R k_Item 33 wr base ok (.slice (some ⟨g, 0, none⟩) l.length c) dk) ∧ Aside0 (KeepI n bk l i j dk))
    case atStart => exact ⟨k0, k0 + 1, l, rfl, by go_num, by omega, (by omega), ⟨grown_of_below hb' _⟩, ⟨Kd.R_below HO.out hb'⟩, I0⟩
    case round =>
      obtain ⟨i, j, dk, rfl, rfl, hjd, hgg, HG, HD, I⟩ := hrel
      have hn := HN.out
      have hij := I.out.lt
      have hdl := I.out.len
      by_cases hlt : j < l.length
      · have hltz : (j : Int) < (l.length : Int) := by omega
        have hxe := I.out.at_
        obtain ⟨ce, hcl, hM, hcc, hfr⟩ := Kd.R_elem HD.out z_Item (j : Int) (by omega) hltz
        obtain rfl := k_Item_openM hM
        rw [show dk.getD (j : Int).toNat z_Item = rd_Item l (j : Int) from hxe] at hcc
        obtain ⟨x, hx⟩ : ∃ x, x = rd_Item l (j : Int) := ⟨_, rfl⟩
        rw [← hx] at hcc
        have h0 : wr.cell? ⟨g, j * 5, none⟩ = some (.int .i64 x.f0) := hcc 0 _ rfl
        have h1 : wr.cell? ⟨g, j * 5 + 1, none⟩ = some (.string x.f1) := hcc 1 _ rfl
        have h2 : wr.cell? ⟨g, j * 5 + 2, none⟩ = some (.string x.f2) := hcc 2 _ rfl
        have h3 : wr.cell? ⟨g, j * 5 + 3, none⟩ = some (.int .i64 x.f3) := hcc 3 _ rfl
        have h4 : wr.cell? ⟨g, j * 5 + 4, none⟩ = some (.int .i64 x.f4) := hcc 4 _ rfl
        have X := Aside0.mk hx
        clear hcl hM hcc hfr hxe hx
        cases hq : (wrap64 (Int.tdiv x.f0 n) == bk) with
        | true =>
          go_wp2_with (first | ((with_reducible refine gate_dst (N := 7) rfl ?_); refine box_event ?hg (N := 7) ?hd (cs := #[.int .i64 0, .string ⟨#[]⟩, .string ⟨#[]⟩, .int .i64 0, .int .i64 0]) (t := 33) ?hr ?_; (case hd => rfl); (case hg => rfl); (case hr => first | (go_simp; done) | (go_simp; rfl)); intro gv hgv w7 hbox hb; have GV := Aside0.mk hgv; have V7 := Aside0.mk hbox; have B7 := Aside0.mk hb; have hv_0 : w7.cell? ⟨gv, 0, none⟩ = some (.int .i64 0) := (blk_cell hbox 0).trans rfl; have hv_1 : w7.cell? ⟨gv, 1, none⟩ = some (.string ⟨#[]⟩) := (blk_cell hbox 1).trans rfl; have hv_2 : w7.cell? ⟨gv, 2, none⟩ = some (.string ⟨#[]⟩) := (blk_cell hbox 2).trans rfl; have hv_3 : w7.cell? ⟨gv, 3, none⟩ = some (.int .i64 0) := (blk_cell hbox 3).trans rfl; have hv_4 : w7.cell? ⟨gv, 4, none⟩ = some (.int .i64 0) := (blk_cell hbox 4).trans rfl; have hz_0 := blk_frozen hbox 0; have hz_1 := blk_frozen hbox 1; have hz_2 := blk_frozen hbox 2; have hz_3 := blk_frozen hbox 3; have hz_4 := blk_frozen hbox 4; clear h0 h1 h2 h3 h4 hb hbox hgv) | ((with_reducible refine gate_store (t := 33) (p := 7) rfl ?_); refine store_event (t := 33) (p := 7) (v := ?vo_w8) (w1 := (((((w7.setCell ⟨gv, 0, none⟩ (.int .i64 x.f0)).setCell ⟨gv, 1, none⟩ (.string x.f1)).setCell ⟨gv, 2, none⟩ (.string x.f2)).setCell ⟨gv, 3, none⟩ (.int .i64 x.f3)).setCell ⟨gv, 4, none⟩ (.int .i64 x.f4))) ?hg ?ho ?hn ?hr ?_; (case ho => rfl); (case hg => rfl); (case hn => rfl); (case hr => first | (go_simp; done) | (go_simp; rfl)); intro w8 hw; have V8 : Aside0 (w8.heap[gv]? = some (.cells #[.int .i64 x.f0, .string x.f1, .string x.f2, .int .i64 x.f3, .int .i64 x.f4] 33 (0, 0))) := ⟨by rw [hw]; exact blk_put (blk_put (blk_put (blk_put (blk_put V7.out 0 _ rfl) 1 _ rfl) 2 _ rfl) 3 _ rfl) 4 _ rfl⟩; have B8 : Aside0 (Below wr.heap.size wr w8) := ⟨by have hgv : wr.heap.size ≤ gv := Nat.le_of_eq GV.out.symm; rw [hw]; exact below_set (below_set (below_set (below_set (below_set B7.out hgv) hgv) hgv) hgv) hgv⟩; have hcall := trimHit gl gb n bk HL.out x.f0 x.f1 x.f2 x.f3 x.f4 w8 (blk_below (blk_grown HX.out HG.out NL.out) B8.out) (blk_below (blk_grown HY.out HG.out NB.out) B8.out); rw [hq] at hcall; have HQ := Aside0.mk hcall; have hd_0 : w8.cell? ⟨gv, 0, none⟩ = some (.int .i64 x.f0) := (blk_cell V8.out 0).trans rfl; have hd_1 : w8.cell? ⟨gv, 1, none⟩ = some (.string x.f1) := (blk_cell V8.out 1).trans rfl; have hd_2 : w8.cell? ⟨gv, 2, none⟩ = some (.string x.f2) := (blk_cell V8.out 2).trans rfl; have hd_3 : w8.cell? ⟨gv, 3, none⟩ = some (.int .i64 x.f3) := (blk_cell V8.out 3).trans rfl; have hd_4 : w8.cell? ⟨gv, 4, none⟩ = some (.int .i64 x.f4) := (blk_cell V8.out 4).trans rfl; clear hw hcall hv_0 hv_1 hv_2 hv_3 hv_4 hz_0 hz_1 hz_2 hz_3 hz_4 V7 B7) | (go_at_fn 55; refine HQ.out.mono ?_; rintro e w9 ⟨rfl, hb9⟩; have B9 := Aside0.mk (below_step B8.out hb9); clear hd_0 hd_1 hd_2 hd_3 hd_4 hb9 HQ V8 B8))
          go_roundg (l.length - (j + 1))
          case measure => omega
          case rel => exact ⟨i, j + 1, dk, rfl, by go_num, by omega, Nat.le_refl _, ⟨HG.out.trans (grown_of_below B9.out _)⟩, ⟨Kd.R_below HD.out B9.out⟩, ⟨I.out.skip hlt (by rw [← X.out]; exact hq)⟩⟩
        | false =>
          have hil : (i : Int) < (l.length : Int) := by omega
          go_wp2_with (first | ((with_reducible refine gate_dst (N := 7) rfl ?_); refine box_event ?hg (N := 7) ?hd (cs := #[.int .i64 0, .string ⟨#[]⟩, .string ⟨#[]⟩, .int .i64 0, .int .i64 0]) (t := 33) ?hr ?_; (case hd => rfl); (case hg => rfl); (case hr => first | (go_simp; done) | (go_simp; rfl)); intro gv hgv w7 hbox hb; have GV := Aside0.mk hgv; have V7 := Aside0.mk hbox; have B7 := Aside0.mk hb; have hv_0 : w7.cell? ⟨gv, 0, none⟩ = some (.int .i64 0) := (blk_cell hbox 0).trans rfl; have hv_1 : w7.cell? ⟨gv, 1, none⟩ = some (.string ⟨#[]⟩) := (blk_cell hbox 1).trans rfl; have hv_2 : w7.cell? ⟨gv, 2, none⟩ = some (.string ⟨#[]⟩) := (blk_cell hbox 2).trans rfl; have hv_3 : w7.cell? ⟨gv, 3, none⟩ = some (.int .i64 0) := (blk_cell hbox 3).trans rfl; have hv_4 : w7.cell? ⟨gv, 4, none⟩ = some (.int .i64 0) := (blk_cell hbox 4).trans rfl; have hz_0 := blk_frozen hbox 0; have hz_1 := blk_frozen hbox 1; have hz_2 := blk_frozen hbox 2; have hz_3 := blk_frozen hbox 3; have hz_4 := blk_frozen hbox 4; clear h0 h1 h2 h3 h4 hb hbox hgv) | ((with_reducible refine gate_store (t := 33) (p := 7) rfl ?_); refine store_event (t := 33) (p := 7) (v := ?vo_w8) (w1 := (((((w7.setCell ⟨gv, 0, none⟩ (.int .i64 x.f0)).setCell ⟨gv, 1, none⟩ (.string x.f1)).setCell ⟨gv, 2, none⟩ (.string x.f2)).setCell ⟨gv, 3, none⟩ (.int .i64 x.f3)).setCell ⟨gv, 4, none⟩ (.int .i64 x.f4))) ?hg ?ho ?hn ?hr ?_; (case ho => rfl); (case hg => rfl); (case hn => rfl); (case hr => first | (go_simp; done) | (go_simp; rfl)); intro w8 hw; have V8 : Aside0 (w8.heap[gv]? = some (.cells #[.int .i64 x.f0, .string x.f1, .string x.f2, .int .i64 x.f3, .int .i64 x.f4] 33 (0, 0))) := ⟨by rw [hw]; exact blk_put (blk_put (blk_put (blk_put (blk_put V7.out 0 _ rfl) 1 _ rfl) 2 _ rfl) 3 _ rfl) 4 _ rfl⟩; have B8 : Aside0 (Below wr.heap.size wr w8) := ⟨by have hgv : wr.heap.size ≤ gv := Nat.le_of_eq GV.out.symm; rw [hw]; exact below_set (below_set (below_set (below_set (below_set B7.out hgv) hgv) hgv) hgv) hgv⟩; have hcall := trimHit gl gb n bk HL.out x.f0 x.f1 x.f2 x.f3 x.f4 w8 (blk_below (blk_grown HX.out HG.out NL.out) B8.out) (blk_below (blk_grown HY.out HG.out NB.out) B8.out); rw [hq] at hcall; have HQ := Aside0.mk hcall; have hd_0 : w8.cell? ⟨gv, 0, none⟩ = some (.int .i64 x.f0) := (blk_cell V8.out 0).trans rfl; have hd_1 : w8.cell? ⟨gv, 1, none⟩ = some (.string x.f1) := (blk_cell V8.out 1).trans rfl; have hd_2 : w8.cell? ⟨gv, 2, none⟩ = some (.string x.f2) := (blk_cell V8.out 2).trans rfl; have hd_3 : w8.cell? ⟨gv, 3, none⟩ = some (.int .i64 x.f3) := (blk_cell V8.out 3).trans rfl; have hd_4 : w8.cell? ⟨gv, 4, none⟩ = some (.int .i64 x.f4) := (blk_cell V8.out 4).trans rfl; clear hw hcall hv_0 hv_1 hv_2 hv_3 hv_4 hz_0 hz_1 hz_2 hz_3 hz_4 V7 B7) | (go_at_fn 55; refine HQ.out.mono ?_; rintro e w9 ⟨rfl, hb9⟩; have B9 := Aside0.mk (below_step B8.out hb9); have V9 := blk_below V8.out hb9; have hd_0 : w9.cell? ⟨gv, 0, none⟩ = some (.int .i64 x.f0) := (blk_cell V9 0).trans rfl; have hd_1 : w9.cell? ⟨gv, 1, none⟩ = some (.string x.f1) := (blk_cell V9 1).trans rfl; have hd_2 : w9.cell? ⟨gv, 2, none⟩ = some (.string x.f2) := (blk_cell V9 2).trans rfl; have hd_3 : w9.cell? ⟨gv, 3, none⟩ = some (.int .i64 x.f3) := (blk_cell V9 3).trans rfl; have hd_4 : w9.cell? ⟨gv, 4, none⟩ = some (.int .i64 x.f4) := (blk_cell V9 4).trans rfl; have R9 := Kd.R_below HD.out B9.out; obtain ⟨ce, hcl, hM, hcc, hfr⟩ := Kd.R_elem R9 z_Item (i : Int) (by omega) hil; obtain rfl := k_Item_openM hM; have HP := Kd.R_seg R9 (i : Int) (by omega) hil (seg := [.int .i64 x.f0, .string x.f1, .string x.f2, .int .i64 x.f3, .int .i64 x.f4]) (j := 0) hcl hcc (show 5 ≤ 5 from by decide) (x' := x) (k_Item_mkM _ _ _ x) (fun _ hk => hk); have he_0 : w9.cell? ⟨g, i * 5, none⟩ = _ := hcc 0 _ rfl; have he_1 : w9.cell? ⟨g, i * 5 + 1, none⟩ = _ := hcc 1 _ rfl; have he_2 : w9.cell? ⟨g, i * 5 + 2, none⟩ = _ := hcc 2 _ rfl; have he_3 : w9.cell? ⟨g, i * 5 + 3, none⟩ = _ := hcc 3 _ rfl; have he_4 : w9.cell? ⟨g, i * 5 + 4, none⟩ = _ := hcc 4 _ rfl; have hf_0 : w9.frozen? ⟨g, i * 5, none⟩ = false := hfr 0; have hf_1 : w9.frozen? ⟨g, i * 5 + 1, none⟩ = false := hfr 1; have hf_2 : w9.frozen? ⟨g, i * 5 + 2, none⟩ = false := hfr 2; have hf_3 : w9.frozen? ⟨g, i * 5 + 3, none⟩ = false := hfr 3; have hf_4 : w9.frozen? ⟨g, i * 5 + 4, none⟩ = false := hfr 4; have HP := Aside0.mk HP; clear hb9 HQ V8 B8 V9 R9 hcl hM hcc hfr) | ((with_reducible refine gate_store (t := 33) (p := 33) rfl ?_); refine store_event (t := 33) (p := 33) (v := ?vo_w10) (w1 := (((((w9.setCell ⟨g, i * 5, none⟩ (.int .i64 x.f0)).setCell ⟨g, i * 5 + 1, none⟩ (.string x.f1)).setCell ⟨g, i * 5 + 2, none⟩ (.string x.f2)).setCell ⟨g, i * 5 + 3, none⟩ (.int .i64 x.f3)).setCell ⟨g, i * 5 + 4, none⟩ (.int .i64 x.f4))) ?hg ?ho ?hn ?hr ?_; (case ho => rfl); (case hg => rfl); (case hn => rfl); (case hr => first | (go_simp; done) | (go_simp; rfl)); intro w10 hw; have R10 : Aside0 (Kd.R k_Item 33 w10 base ok (.slice (some ⟨g, 0, none⟩) l.length c) (dk.set i x)) := ⟨by rw [hw]; exact HP.out.1⟩; have G10 : Aside0 (w9.grownBy w10 (some g)) := ⟨by rw [hw]; exact HP.out.2⟩; clear hw HP he_0 he_1 he_2 he_3 he_4 hf_0 hf_1 hf_2 hf_3 hf_4 hd_0 hd_1 hd_2 hd_3 hd_4))
          go_roundg (l.length - (j + 1))
          case measure => omega
          case rel => exact ⟨i + 1, j + 1, dk.set i x, by go_num, by go_num, by omega, Nat.le_refl _, ⟨(HG.out.trans (grown_of_below B9.out _)).trans G10.out⟩, R10, ⟨by have h_ := I.out.keep hlt (by rw [← X.out]; exact hq); rw [← X.out] at h_; exact h_⟩⟩
      · obtain rfl : j = l.length := by omega
        have hltz : ¬ (l.length : Int) < (l.length : Int) := by omega
        have hD := HD.out
        have hcap := (Kd.R_reads' hD).2.1
        rw [show l.length = dk.length from hdl.symm] at hD
        obtain ⟨w1, hcl, hr1, hg1⟩ := clear_items hD i (by omega) 0
        have hic : i ≤ c := by omega
        have hiz : (i : Int) ≤ (l.length : Int) := by omega
        have hcl := hcl (l.length - i) (by omega) (c - i)
        have hK : (kept n bk l).length = i := by
          have h_ := I.out.low
          rw [List.take_length] at h_
          rw [← h_, List.length_take]
          omega
        have hK2 : dk.take i = kept n bk l := by
          have h_ := I.out.low
          rwa [List.take_length] at h_
        have HR1 := Aside0.mk hr1
        have HG1 := Aside0.mk (HG.out.trans hg1)
        have HKK := Aside0.mk (And.intro hK hK2)
        clear hD hr1 hg1 hK hK2
        go_wp2
        go_ret
        rw [HKK.out.1, ← HKK.out.2]
        exact ⟨rfl, HR1.out, HG1.out⟩
/-! ### impl_RowTrim: function 11 -/
-- IMPORT Derived.Deep.QuietTactic
-- IMPORT Derived.BigQuiet
-- IMPORT Derived.RegionTactic
def impl_RowTrim.l0 (n keep b : Int) : Nat → Int → List S_Item → Option (Int × Int × List S_Item)
  | 0, _, _ => none
  | k + 1, a, l => if (l.length : Int) > keep then (if wrap64 (Int.tdiv (rd_Item l 0).f0 n) = wrap64 (Int.tdiv (wrap64 (b - 1)) n) then some (a, b, l) else impl_RowTrim.l0 n keep b k (wrap64 (wrap64 (wrap64 (Int.tdiv (rd_Item l 0).f0 n) + 1) * n)) (kept n (wrap64 (Int.tdiv (rd_Item l 0).f0 n)) l)) else some (a, b, l)
def impl_RowTrim.f (k : Nat) (a0_0 : Int) (a0_1 : Int) (l0_2 : List (S_Item)) (a1 : Int) (a2 : Int) : Option (Int × Int × (List (S_Item))) :=
  (impl_copyRow.f a0_0 a0_1 l0_2).bind fun c => if a1 < 1 then some c else if a2 < 0 then some c else (impl_RowOk.f k a0_0 a0_1 l0_2).bind fun t => if t = true then impl_RowTrim.l0 a1 a2 c.2.1 k c.1 c.2.2 else some c
theorem impl_RowTrim.mono_l (n keep b : Int) : ∀ k, (∀ y0 y1, LeO (impl_RowTrim.l0 n keep b k y0 y1) (impl_RowTrim.l0 n keep b (k + 1) y0 y1))
  | 0 => fun _ _ r h => by simp [impl_RowTrim.l0] at h
  | k + 1 => by
    have ih0 := impl_RowTrim.mono_l n keep b k
    intro y0 y1
    unfold impl_RowTrim.l0
    refine LeO.ite (LeO.ite (LeO.refl _) (ih0 _ _)) (LeO.refl _)
theorem impl_RowTrim.mono : ∀ a0 a1 a2 a3 a4 k, LeO (impl_RowTrim.f k a0 a1 a2 a3 a4) (impl_RowTrim.f (k + 1) a0 a1 a2 a3 a4) := by
  intro a0 a1 a2 a3 a4 k
  unfold impl_RowTrim.f
  refine LeO.bind (LeO.refl _) (fun c => LeO.ite (LeO.refl _) (LeO.ite (LeO.refl _) (LeO.bind (impl_RowOk.mono _ _ _ _) (fun t => LeO.ite (impl_RowTrim.mono_l _ _ _ _ _ _) (LeO.refl _)))))
/-- what is known of memory while a row is trimmed -/
structure TrimS (w W : World) (g4 g6 g7 : Nat) (n a b : Int) (v : Value) (l : List S_Item) : Prop where
  below : Below w.heap.size w W
  b4 : W.heap[g4]? = some (.cells #[.int .i64 n] 3 (0, 0))
  b6 : W.heap[g6]? = some (.cells #[.int .i64 0, .int .i64 0, .slice none 0 0] 26 (0, 0))
  b7 : W.heap[g7]? = some (.cells #[.int .i64 a, .int .i64 b, v] 26 (0, 0))
  ge4 : w.heap.size ≤ g4
  ge6 : w.heap.size ≤ g6
  ge7 : w.heap.size ≤ g7
  ne : g6 ≠ g7
  row : Kd.R k_Item 33 W w.heap.size (fun _ => True) v l
theorem TrimS.step {w W W1 : World} {g4 g6 g7 : Nat} {n a b : Int} {v : Value} {l : List S_Item} (h : TrimS w W g4 g6 g7 n a b v l) (hb : Below W.heap.size W W1) : TrimS w W1 g4 g6 g7 n a b v l :=
  ⟨below_step h.below hb, blk_below h.b4 hb, blk_below h.b6 hb, blk_below h.b7 hb, h.ge4, h.ge6, h.ge7, h.ne, Kd.R_below h.row hb⟩
theorem TrimS.set {w W : World} {g4 g6 g7 : Nat} {n a b a' : Int} {v v' : Value} {l : List S_Item} (h : TrimS w W g4 g6 g7 n a b v l) (j : Nat) (u : Value) (hc : (#[.int .i64 a, .int .i64 b, v] : Array Value).setIfInBounds j u = #[.int .i64 a', .int .i64 b, v']) (hr : Kd.R k_Item 33 W w.heap.size (fun _ => True) v' l) : TrimS w (W.setCell ⟨g7, j, none⟩ u) g4 g6 g7 n a' b v' l :=
  ⟨below_set h.below h.ge7, blk_far h.b4 (fun e => blk_ne h.b4 h.b7 (by decide) e) _, blk_far h.b6 h.ne _, blk_put h.b7 j u hc, h.ge4, h.ge6, h.ge7, h.ne, Kd.R_mono (Kd.R_far (p := ⟨g7, j, none⟩) (Kd.R_types hr h.b7 (by decide)) (fun _ hk => hk.2) u) (fun _ hk => trivial)⟩
set_option maxHeartbeats 16000000 in
set_option maxRecDepth 100000 in
theorem impl_RowTrim.calls (k : Nat) (a0_0 : Int) (a0_1 : Int) (A0_2 : Option Addr) (c0_2 : Nat) (l0_2 : List (S_Item)) (a1 : Int) (a2 : Int) (r1 : Int) (r2 : Int) (r3 : List (S_Item)) (w : World) (hr0_2 : Kd.C k_Item w A0_2 l0_2.length l0_2) (hc0_2 : l0_2.length ≤ c0_2) (h : impl_RowTrim.f k a0_0 a0_1 l0_2 a1 a2 = some (r1, r2, r3)) :
    Calls Try.prog 11 #[.agg #[.int .i64 a0_0, .int .i64 a0_1, .slice A0_2 l0_2.length c0_2], .int .i64 a1, .int .i64 a2] w fun e w' => ∃ v2_ : Value, e = .returned (.agg #[.int .i64 r1, .int .i64 r2, v2_]) ∧ Kd.R k_Item 33 w' w.heap.size (fun _ => True) v2_ r3 ∧ Below w.heap.size w w' := by
  have hu26 := Try.underlying26
  have hu33 := Try.underlying33
  have HR := Aside0.mk hr0_2
  have HC := Aside0.mk hc0_2
  clear hr0_2 hc0_2
  unfold impl_RowTrim.f at h
  obtain ⟨⟨t0, t1, l⟩, AC, h⟩ := Option.bind_eq_some_iff.mp h
  have AC := Aside0.mk AC
  have H := Aside0.mk h
  clear h
  go_enter Try.func11, Try.ntmps11
  go_upto_region 2 with (first | ((with_reducible refine gate_dst (N := 3) rfl ?_); refine box_event ?hg (N := 3) ?hd (cs := #[.int .i64 a0_0, .int .i64 a0_1, .slice A0_2 l0_2.length c0_2]) (t := 26) ?hr ?_; (case hd => rfl); (case hg => rfl); (case hr => first | (go_simp; done) | (go_simp; rfl)); intro g3 hg w3 hbox hb; have B3 := Aside0.mk (hb); have K3 := Aside0.mk hbox; have E3 := Aside0.mk (Nat.le_of_eq hg.symm); clear hb hbox hg) | ((with_reducible refine gate_dst (N := 4) rfl ?_); refine box_event ?hg (N := 4) ?hd (cs := #[.int .i64 a1]) (t := 3) ?hr ?_; (case hd => rfl); (case hg => rfl); (case hr => first | (go_simp; done) | (go_simp; rfl)); intro g4 hg w4 hbox hb; have K34 := Aside0.mk (blk_below K3.out hb); have E4 := Aside0.mk (by rw [hg]; exact B3.out.size : w.heap.size ≤ g4); have B4 := Aside0.mk (below_step B3.out hb); have K4 := Aside0.mk hbox; clear hb hbox hg B3 K3) | ((with_reducible refine gate_dst (N := 6) rfl ?_); refine box_event ?hg (N := 6) ?hd (cs := #[.int .i64 0, .int .i64 0, .slice none 0 0]) (t := 26) ?hr ?_; (case hd => rfl); (case hg => rfl); (case hr => first | (go_simp; done) | (go_simp; rfl)); intro g6 hg w6 hbox hb; have K36 := Aside0.mk (blk_below K34.out hb); have K46 := Aside0.mk (blk_below K4.out hb); have E6 := Aside0.mk (by rw [hg]; exact B4.out.size : w.heap.size ≤ g6); have B6 := Aside0.mk (below_step B4.out hb); have K6 := Aside0.mk hbox; have hr_0 : w6.cell? ⟨g3, 0, none⟩ = some (.int .i64 a0_0) := (blk_cell K36.out 0).trans rfl; have hr_1 : w6.cell? ⟨g3, 1, none⟩ = some (.int .i64 a0_1) := (blk_cell K36.out 1).trans rfl; have hr_2 : w6.cell? ⟨g3, 2, none⟩ = some (.slice A0_2 l0_2.length c0_2) := (blk_cell K36.out 2).trans rfl; clear hb hbox hg B4 K34 K4) | ((with_reducible refine gate_callee (f := 53) rfl ?_); refine goesL_ (some 10) rfl rfl Try.func53 (by kernel_rfl) rfl #[.agg #[.int .i64 a0_0, .int .i64 a0_1, .slice A0_2 l0_2.length c0_2]] rfl (by (try simp only [List.map_toArray, List.map_cons, List.map_nil]); first | done | rfl) ?_; (with_reducible refine (impl_copyRow.calls a0_0 a0_1 A0_2 c0_2 l0_2 t0 t1 l _ (Kd.C_below HR.out B6.out) HC.out AC.out).mono ?_); rintro e w10 ⟨v, rfl, hr10, hb⟩; refine ⟨_, rfl, ?_⟩; have K3a := Aside0.mk (blk_below K36.out hb); have K4a := Aside0.mk (blk_below K46.out hb); have K6a := Aside0.mk (blk_below K6.out hb); have R10 := Aside0.mk (Kd.R_lower hr10 B6.out.size); have B10 := Aside0.mk (below_step B6.out hb); clear hr10 hb K36 K46 K6 B6 hr_0 hr_1 hr_2) | ((with_reducible refine gate_dst (N := 7) rfl ?_); refine box_event ?hg (N := 7) ?hd (cs := #[.int .i64 0, .int .i64 0, .slice none 0 0]) (t := 26) ?hr ?_; (case hd => rfl); (case hg => rfl); (case hr => first | (go_simp; done) | (go_simp; rfl)); intro g7 hg w7 hbox hb; have K37 := Aside0.mk (blk_below K3a.out hb); have N67 := Aside0.mk (by rw [hg]; exact Nat.ne_of_lt (blk_lt K6a.out) : g6 ≠ g7); have N37 := Aside0.mk (by rw [hg]; exact Nat.ne_of_lt (blk_lt K3a.out) : g3 ≠ g7); have E7 := Aside0.mk (by rw [hg]; exact B10.out.size : w.heap.size ≤ g7); have S7 := Aside0.mk (TrimS.mk (below_step B10.out hb) (blk_below K4a.out hb) (blk_below K6a.out hb) hbox E4.out E6.out E7.out N67.out (Kd.R_nil k_Item 33 w7 w.heap.size (fun _ => True))); have R7 := Aside0.mk (Kd.R_below R10.out hb); have hv_0 : w7.cell? ⟨g7, 0, none⟩ = some (.int .i64 0) := (blk_cell hbox 0).trans rfl; have hv_1 : w7.cell? ⟨g7, 1, none⟩ = some (.int .i64 0) := (blk_cell hbox 1).trans rfl; have hv_2 : w7.cell? ⟨g7, 2, none⟩ = some (.slice none 0 0) := (blk_cell hbox 2).trans rfl; have hz_0 := blk_frozen hbox 0; have hz_1 := blk_frozen hbox 1; have hz_2 := blk_frozen hbox 2; obtain ⟨Ao, co, rfl⟩ := Kd.R_slice R7.out; clear hb hbox hg K3a K4a K6a R10 B10) | ((with_reducible refine gate_store (t := 26) (p := 7) rfl ?_); refine store_event (t := 26) (p := 7) (v := ?vo_w8) (w1 := (((w7.setCell ⟨g7, 0, none⟩ (.int .i64 t0)).setCell ⟨g7, 1, none⟩ (.int .i64 t1)).setCell ⟨g7, 2, none⟩ (.slice Ao l.length co))) ?hg ?ho ?hn ?hr ?_; (case ho => rfl); (case hg => rfl); (case hn => rfl); (case hr => first | (go_simp; done) | (go_simp; rfl)); intro w8 hw; have K38 : Aside0 (w8.heap[g3]? = some (.cells #[.int .i64 a0_0, .int .i64 a0_1, .slice A0_2 l0_2.length c0_2] 26 (0, 0))) := ⟨by rw [hw]; exact blk_far (blk_far (blk_far K37.out N37.out _) N37.out _) N37.out _⟩; have S8 : Aside0 (TrimS w w8 g4 g6 g7 a1 t0 t1 (.slice Ao l.length co) l) := ⟨by rw [hw]; exact TrimS.mk (below_set (below_set (below_set S7.out.below E7.out) E7.out) E7.out) (blk_far (blk_far (blk_far S7.out.b4 (fun e => blk_ne S7.out.b4 S7.out.b7 (by decide) e) _) (fun e => blk_ne S7.out.b4 S7.out.b7 (by decide) e) _) (fun e => blk_ne S7.out.b4 S7.out.b7 (by decide) e) _) (blk_far (blk_far (blk_far S7.out.b6 N67.out _) N67.out _) N67.out _) (blk_put (blk_put (blk_put S7.out.b7 0 _ rfl) 1 _ rfl) 2 _ rfl) E4.out E6.out E7.out N67.out (Kd.R_mono (Kd.R_far (p := ⟨g7, 2, none⟩) (Kd.R_far (p := ⟨g7, 1, none⟩) (Kd.R_far (p := ⟨g7, 0, none⟩) (Kd.R_types R7.out S7.out.b7 (by decide)) (fun _ hk => hk.2) _) (fun _ hk => hk.2) _) (fun _ hk => hk.2) _) (fun _ _ => trivial))⟩; clear hw hv_0 hv_1 hv_2 hz_0 hz_1 hz_2 S7 R7 K37))
  (try simp only [Act.put, List.setIfInBounds_toArray, List.set_cons_zero, List.set_cons_succ])
  go_cut [21] (fun v21 wc => ∃ x21 : Bool, v21 = .bool x21 ∧ Aside0 (x21 = true → (t0, t1, l) = (r1, r2, r3)) ∧ Aside0 (x21 = false → 1 ≤ a1 ∧ 0 ≤ a2 ∧ impl_RowTrim.l0 a1 a2 t1 k t0 l = some (r1, r2, r3)) ∧ Aside0 (TrimS w wc g4 g6 g7 a1 t0 t1 (.slice Ao l.length co) l))
  case first =>
    have hl4 : w8.cell? ⟨g4, 0, none⟩ = some (.int .i64 a1) := (blk_cell S8.out.b4 0).trans rfl
    by_cases c1 : a1 < 1
    · have c1b := decide_eq_true c1
      have H2 : Aside0 ((t0, t1, l) = (r1, r2, r3)) := ⟨by have h_ := H.out; rw [if_pos c1] at h_; exact Option.some.inj h_⟩
      clear c1
      go_wp2
      go_meet
      case rel => exact ⟨true, by first | rfl | simp, ⟨fun _ => H2.out⟩, ⟨fun h_ => by simp at h_⟩, S8⟩
    · have c1b := decide_eq_false c1
      have c1f := Aside0.mk c1
      have H2 := H.out
      rw [if_neg c1] at H2
      clear c1
      by_cases c2 : a2 < 0
      · have c2b := decide_eq_true c2
        rw [if_pos c2] at H2
        have H3 := Aside0.mk (Option.some.inj H2)
        clear c2 H2
        go_wp2
        go_meet
        case rel => exact ⟨true, by first | rfl | simp, ⟨fun _ => H3.out⟩, ⟨fun h_ => by simp at h_⟩, S8⟩
      · have c2b := decide_eq_false c2
        have c2f := Aside0.mk c2
        rw [if_neg c2] at H2
        clear c2
        obtain ⟨tt, AO, H2⟩ := Option.bind_eq_some_iff.mp H2
        have AO := Aside0.mk AO
        have H3 := Aside0.mk H2
        clear H2
        have hr_0 : w8.cell? ⟨g3, 0, none⟩ = some (.int .i64 a0_0) := (blk_cell K38.out 0).trans rfl
        have hr_1 : w8.cell? ⟨g3, 1, none⟩ = some (.int .i64 a0_1) := (blk_cell K38.out 1).trans rfl
        have hr_2 : w8.cell? ⟨g3, 2, none⟩ = some (.slice A0_2 l0_2.length c0_2) := (blk_cell K38.out 2).trans rfl
        go_wp2_with (first | (go_at_call 14; (with_reducible refine (impl_RowOk.calls k a0_0 a0_1 _ _ l0_2 tt _ (Kd.C_below HR.out S8.out.below) HC.out AO.out).mono ?_); rintro e w22 ⟨rfl, hb⟩; have S9 := Aside0.mk (S8.out.step hb); clear hb hr_0 hr_1 hr_2 hl4))
        go_meet
        case rel => exact ⟨(!tt), by first | rfl | (simp; done) | (simp [*]; done), ⟨fun h_ => by have h2_ := H3.out; cases tt with | true => simp at h_ | false => exact Option.some.inj h2_⟩, ⟨fun h_ => by have h2_ := H3.out; cases tt with | true => (exact ⟨by have := c1f.out; omega, by have := c2f.out; omega, h2_⟩) | false => simp at h_⟩, S9⟩
  case rest =>
    obtain ⟨x21, rfl, HT, HF, S⟩ := hcut
    clear S8 H AC K38
    cases x21 with
    | true =>
      have E := Aside0.mk (HT.out rfl)
      clear HT HF
      have h7_0 : wc.cell? ⟨g7, 0, none⟩ = some (.int .i64 t0) := (blk_cell S.out.b7 0).trans rfl
      have h7_1 : wc.cell? ⟨g7, 1, none⟩ = some (.int .i64 t1) := (blk_cell S.out.b7 1).trans rfl
      have h7_2 : wc.cell? ⟨g7, 2, none⟩ = some (.slice Ao l.length co) := (blk_cell S.out.b7 2).trans rfl
      have h6_0 : wc.cell? ⟨g6, 0, none⟩ = some (.int .i64 0) := (blk_cell S.out.b6 0).trans rfl
      have h6_1 : wc.cell? ⟨g6, 1, none⟩ = some (.int .i64 0) := (blk_cell S.out.b6 1).trans rfl
      have h6_2 : wc.cell? ⟨g6, 2, none⟩ = some (.slice none 0 0) := (blk_cell S.out.b6 2).trans rfl
      have z6_0 := blk_frozen S.out.b6 0
      have z6_1 := blk_frozen S.out.b6 1
      have z6_2 := blk_frozen S.out.b6 2
      go_wp2_with (first | ((with_reducible refine gate_store (t := 26) (p := 6) rfl ?_); refine store_event (t := 26) (p := 6) (v := ?vo_we1) (w1 := (((wc.setCell ⟨g6, 0, none⟩ (.int .i64 t0)).setCell ⟨g6, 1, none⟩ (.int .i64 t1)).setCell ⟨g6, 2, none⟩ (.slice Ao l.length co))) ?hg ?ho ?hn ?hr ?_; (case ho => rfl); (case hg => rfl); (case hn => rfl); (case hr => first | (go_simp; done) | (go_simp; rfl)); intro we hw; have K6e : Aside0 (we.heap[g6]? = some (.cells #[.int .i64 t0, .int .i64 t1, .slice Ao l.length co] 26 (0, 0))) := ⟨by rw [hw]; exact blk_put (blk_put (blk_put S.out.b6 0 _ rfl) 1 _ rfl) 2 _ rfl⟩; have Re : Aside0 (Kd.R k_Item 33 we w.heap.size (fun _ => True) (.slice Ao l.length co) l) := ⟨by rw [hw]; exact Kd.R_mono (Kd.R_far (p := ⟨g6, 2, none⟩) (Kd.R_far (p := ⟨g6, 1, none⟩) (Kd.R_far (p := ⟨g6, 0, none⟩) (Kd.R_types S.out.row S.out.b6 (by decide)) (fun _ hk => hk.2) _) (fun _ hk => hk.2) _) (fun _ hk => hk.2) _) (fun _ _ => trivial)⟩; have Be : Aside0 (Below w.heap.size w we) := ⟨by rw [hw]; exact below_set (below_set (below_set S.out.below S.out.ge6) S.out.ge6) S.out.ge6⟩; clear hw))
      refine bodyPost_ret (results_cell_row rfl _ _ g6 26 #[.int .i64 t0, .int .i64 t1, .slice Ao l.length co] (0, 0) _ rfl K6e.out Try.underlying26 rfl (by kernel_rfl)) rfl ?_
      obtain ⟨rfl, rfl, rfl⟩ : t0 = r1 ∧ t1 = r2 ∧ l = r3 := by have h_ := E.out; simpa using h_
      exact ⟨_, rfl, Re.out, Be.out⟩
    | false =>
      obtain ⟨hn1, hk0, HL⟩ := HF.out rfl
      have HN := Aside0.mk hn1
      have HK := Aside0.mk hk0
      have HL := Aside0.mk HL
      clear HT HF hn1 hk0
      go_wp2
      go_loopg [8] k (fun kq v8 wr => ∃ (a : Int) (A : Option Addr) (c : Nat) (l' : List S_Item), Aside0 (impl_RowTrim.l0 a1 a2 t1 kq a l' = some (r1, r2, r3)) ∧ Aside0 (kq ≤ k) ∧ Aside0 (TrimS w wr g4 g6 g7 a1 a t1 (.slice A l'.length c) l'))
      case atStart => exact ⟨t0, Ao, co, l, HL, ⟨Nat.le_refl _⟩, S⟩
      case round =>
        clear HL S
        obtain ⟨a, A, c, l', HA, HK1, S⟩ := hrel
        cases gk with
        | zero => exact absurd HA.out (by simp [impl_RowTrim.l0])
        | succ k1 =>
          have H := HA.out
          clear HA
          simp only [impl_RowTrim.l0] at H
          have hl4 : wr.cell? ⟨g4, 0, none⟩ = some (.int .i64 a1) := (blk_cell S.out.b4 0).trans rfl
          have h7_0 : wr.cell? ⟨g7, 0, none⟩ = some (.int .i64 a) := (blk_cell S.out.b7 0).trans rfl
          have h7_1 : wr.cell? ⟨g7, 1, none⟩ = some (.int .i64 t1) := (blk_cell S.out.b7 1).trans rfl
          have h7_2 : wr.cell? ⟨g7, 2, none⟩ = some (.slice A l'.length c) := (blk_cell S.out.b7 2).trans rfl
          by_cases c1 : (l'.length : Int) > a2
          · rw [if_pos c1] at H
            have c1b : decide ((l'.length : Int) > a2) = true := decide_eq_true c1
            have hlp : (0 : Int) < (l'.length : Int) := by have := HK.out; omega
            have hnz : ¬ a1 = 0 := by have := HN.out; omega
            have hnz2 : (a1 == 0) = false := by simp [hnz]
            obtain ⟨g, c, eg, gb, gl, cl, HG⟩ := Kd.R_form S.out.row (by omega)
            (first | cases eg | (injection eg with ea_ en_ ec_; subst ea_; subst ec_; clear en_))
            obtain ⟨ce, hcl, hM, hcc, hfr⟩ := Kd.R_elem S.out.row z_Item (0 : Int) (by omega) hlp
            obtain rfl := k_Item_openM hM
            have hx_0 : wr.cell? ⟨g, 0, none⟩ = some (.int .i64 (rd_Item l' 0).f0) := hcc 0 _ rfl
            have GB := Aside0.mk gb
            clear hcl hM hcc hfr gb gl HG
            generalize hx : (rd_Item l' 0).f0 = x at H hx_0
            clear hx
            by_cases c2 : wrap64 (Int.tdiv x a1) = wrap64 (Int.tdiv (wrap64 (t1 - 1)) a1)
            · rw [if_pos c2] at H
              have E := Aside0.mk (Option.some.inj H)
              clear H
              go_wp2
              go_quiet (fail)
              have S2 := Aside0.mk (S.out.step (pw_below_drewN (Below.refl _ _) nq))
              clear S hl4 h7_0 h7_1 h7_2 hx_0
              generalize wr.drewN nq = wd at *
              have h7_0 : wd.cell? ⟨g7, 0, none⟩ = some (.int .i64 a) := (blk_cell S2.out.b7 0).trans rfl
              have h7_1 : wd.cell? ⟨g7, 1, none⟩ = some (.int .i64 t1) := (blk_cell S2.out.b7 1).trans rfl
              have h7_2 : wd.cell? ⟨g7, 2, none⟩ = some (.slice (some ⟨g, 0, none⟩) l'.length c) := (blk_cell S2.out.b7 2).trans rfl
              have h6_0 : wd.cell? ⟨g6, 0, none⟩ = some (.int .i64 0) := (blk_cell S2.out.b6 0).trans rfl
              have h6_1 : wd.cell? ⟨g6, 1, none⟩ = some (.int .i64 0) := (blk_cell S2.out.b6 1).trans rfl
              have h6_2 : wd.cell? ⟨g6, 2, none⟩ = some (.slice none 0 0) := (blk_cell S2.out.b6 2).trans rfl
              have z6_0 := blk_frozen S2.out.b6 0
              have z6_1 := blk_frozen S2.out.b6 1
              have z6_2 := blk_frozen S2.out.b6 2
              go_wp2_with (first | ((with_reducible refine gate_store (t := 26) (p := 6) rfl ?_); refine store_event (t := 26) (p := 6) (v := ?vo_we2) (w1 := (((wd.setCell ⟨g6, 0, none⟩ (.int .i64 a)).setCell ⟨g6, 1, none⟩ (.int .i64 t1)).setCell ⟨g6, 2, none⟩ (.slice (some ⟨g, 0, none⟩) l'.length c))) ?hg ?ho ?hn ?hr ?_; (case ho => rfl); (case hg => rfl); (case hn => rfl); (case hr => first | (go_simp; done) | (go_simp; rfl)); intro we hw; have K6e : Aside0 (we.heap[g6]? = some (.cells #[.int .i64 a, .int .i64 t1, .slice (some ⟨g, 0, none⟩) l'.length c] 26 (0, 0))) := ⟨by rw [hw]; exact blk_put (blk_put (blk_put S2.out.b6 0 _ rfl) 1 _ rfl) 2 _ rfl⟩; have Re : Aside0 (Kd.R k_Item 33 we w.heap.size (fun _ => True) (.slice (some ⟨g, 0, none⟩) l'.length c) l') := ⟨by rw [hw]; exact Kd.R_mono (Kd.R_far (p := ⟨g6, 2, none⟩) (Kd.R_far (p := ⟨g6, 1, none⟩) (Kd.R_far (p := ⟨g6, 0, none⟩) (Kd.R_types S2.out.row S2.out.b6 (by decide)) (fun _ hk => hk.2) _) (fun _ hk => hk.2) _) (fun _ hk => hk.2) _) (fun _ _ => trivial)⟩; have Be : Aside0 (Below w.heap.size w we) := ⟨by rw [hw]; exact below_set (below_set (below_set S2.out.below S2.out.ge6) S2.out.ge6) S2.out.ge6⟩; clear hw))
              refine bodyPost_ret (results_cell_row rfl _ _ g6 26 #[.int .i64 a, .int .i64 t1, .slice (some ⟨g, 0, none⟩) l'.length c] (0, 0) _ rfl K6e.out Try.underlying26 rfl (by kernel_rfl)) rfl ?_
              obtain ⟨rfl, rfl, rfl⟩ : a = r1 ∧ t1 = r2 ∧ l' = r3 := by have h_ := E.out; simpa using h_
              exact ⟨_, rfl, Re.out, Be.out⟩
            · rw [if_neg c2] at H
              have c2b : (wrap64 (Int.tdiv x a1) == wrap64 (Int.tdiv (wrap64 (t1 - 1)) a1)) = false := beq_eq_false_iff_ne.2 c2
              have H' := Aside0.mk H
              clear H c2
              go_wp2
              go_quiet (fail)
              have S2 := Aside0.mk (S.out.step (pw_below_drewN (Below.refl _ _) nq))
              have hx_0' : (wr.drewN nq).cell? ⟨g, 0, none⟩ = some (.int .i64 x) := hx_0
              clear S hl4 h7_0 h7_1 h7_2 hx_0
              generalize wr.drewN nq = wd at *
              have hl4 : wd.cell? ⟨g4, 0, none⟩ = some (.int .i64 a1) := (blk_cell S2.out.b4 0).trans rfl
              have h7_2 : wd.cell? ⟨g7, 2, none⟩ = some (.slice (some ⟨g, 0, none⟩) l'.length c) := (blk_cell S2.out.b7 2).trans rfl
              have hlp2 : 0 < l'.length := by omega
              have ha_4 : (wd.alloc (.cells #[.int .i64 0] 3 (0, 0))).cell? ⟨g4, 0, none⟩ = some (.int .i64 a1) := (blk_cell (blk_alloc S2.out.b4 _) 0).trans rfl
              have ha_7 : (wd.alloc (.cells #[.int .i64 0] 3 (0, 0))).cell? ⟨g7, 2, none⟩ = some (.slice (some ⟨g, 0, none⟩) l'.length c) := (blk_cell (blk_alloc S2.out.b7 _) 2).trans rfl
              have ha_0 : (wd.alloc (.cells #[.int .i64 0] 3 (0, 0))).cell? ⟨g, 0, none⟩ = some (.int .i64 x) := pw_cell_below (below_alloc (Below.refl _ _) _) hx_0'
              go_wp2
              go_region
              have S5 := Aside0.mk (S2.out.step (W1 := (wd.alloc (.cells #[.int .i64 (wrap64 (Int.tdiv x a1))] 3 (0, 0))).drew) (below_drew (below_alloc (Below.refl _ _) _)))
              have K8 : Aside0 ((wd.alloc (.cells #[.int .i64 (wrap64 (Int.tdiv x a1))] 3 (0, 0))).drew.heap[wd.heap.size]? = some (.cells #[.int .i64 (wrap64 (Int.tdiv x a1))] 3 (0, 0))) := ⟨blk_drew (blk_new _ _)⟩
              clear S2 hx_0' hl4 h7_2 ha_4 ha_7 ha_0
              generalize (wd.alloc (.cells #[.int .i64 (wrap64 (Int.tdiv x a1))] 3 (0, 0))).drew = w5 at *
              generalize wd.heap.size = g8 at *
              generalize wrap64 (Int.tdiv x a1) = bk at *
              have h7_2 : w5.cell? ⟨g7, 2, none⟩ = some (.slice (some ⟨g, 0, none⟩) l'.length c) := (blk_cell S5.out.b7 2).trans rfl
              go_wp2_with (first | (go_at_call 54; refine (trimDel g4 g8 a1 bk HN.out w.heap.size (fun _ => True) g c l' w5 S5.out.b4 K8.out S5.out.row).mono ?_; rintro e w6 ⟨rfl, hr6, hg6⟩; have n4 : some g4 ≠ (some g : Option Nat) := (fun e => Kd.R_ne S5.out.row S5.out.b4 (by decide) (by rw [e]; simp [Value.ownBlock])); have n6 : some g6 ≠ (some g : Option Nat) := (fun e => Kd.R_ne S5.out.row S5.out.b6 (by decide) (by rw [e]; simp [Value.ownBlock])); have n7 : some g7 ≠ (some g : Option Nat) := (fun e => Kd.R_ne S5.out.row S5.out.b7 (by decide) (by rw [e]; simp [Value.ownBlock])); have n8 : some g8 ≠ (some g : Option Nat) := (fun e => Kd.R_ne S5.out.row K8.out (by decide) (by rw [e]; simp [Value.ownBlock])); have K46 := Aside0.mk (blk_grown S5.out.b4 hg6 n4); have K66 := Aside0.mk (blk_grown S5.out.b6 hg6 n6); have K76 := Aside0.mk (blk_grown S5.out.b7 hg6 n7); have K86 := Aside0.mk (blk_grown K8.out hg6 n8); have B6 := Aside0.mk (S5.out.below.grown hg6 S5.out.below.size (fun k hk => by cases hk; exact GB.out)); have R6 := Aside0.mk hr6; have G4 := Aside0.mk S5.out.ge4; have G6 := Aside0.mk S5.out.ge6; have G7 := Aside0.mk S5.out.ge7; have N67' := Aside0.mk S5.out.ne; have h76 : w6.cell? ⟨g7, 2, none⟩ = some (.slice (some ⟨g, 0, none⟩) l'.length c) := (blk_cell K76.out 2).trans rfl; have z76 := blk_frozen K76.out 2; clear h7_2 hr6 hg6 S5 K8 n4 n6 n7 n8) | ((with_reducible refine gate_store (t := 24) (p := 54) rfl ?_); refine store_event (t := 24) (p := 54) (v := ?vo_w7) (w1 := (w6.setCell ⟨g7, 2, none⟩ (.slice (some ⟨g, 0, none⟩) (kept a1 bk l').length c))) ?hg ?ho ?hn ?hr ?_; (case ho => rfl); (case hg => rfl); (case hn => rfl); (case hr => first | (go_simp; done) | (go_simp; rfl)); intro w7 hw; have K87 : Aside0 (w7.heap[g8]? = some (.cells #[.int .i64 bk] 3 (0, 0))) := ⟨by rw [hw]; exact blk_far K86.out (fun e => blk_ne K86.out K76.out (by decide) e) _⟩; have S7 : Aside0 (TrimS w w7 g4 g6 g7 a1 a t1 (.slice (some ⟨g, 0, none⟩) (kept a1 bk l').length c) (kept a1 bk l')) := ⟨by rw [hw]; exact TrimS.mk (below_set B6.out G7.out) (blk_far K46.out (fun e => blk_ne K46.out K76.out (by decide) e) _) (blk_far K66.out N67'.out _) (blk_put K76.out 2 _ rfl) G4.out G6.out G7.out N67'.out (Kd.R_mono (Kd.R_far (p := ⟨g7, 2, none⟩) (Kd.R_types R6.out K76.out (by decide)) (fun _ hk => hk.2) _) (fun _ _ => trivial))⟩; have hl_8 : w7.cell? ⟨g8, 0, none⟩ = some (.int .i64 bk) := (blk_cell K87.out 0).trans rfl; have hl_4 : w7.cell? ⟨g4, 0, none⟩ = some (.int .i64 a1) := (blk_cell S7.out.b4 0).trans rfl; have h7_0 : w7.cell? ⟨g7, 0, none⟩ = some (.int .i64 a) := (blk_cell S7.out.b7 0).trans rfl; have z7_0 := blk_frozen S7.out.b7 0; clear hw h76 z76 K46 K66 K76 K86 B6 R6) | ((with_reducible refine gate_store (t := 3) (p := 59) rfl ?_); refine store_event (t := 3) (p := 59) (v := ?vo_w9) (w1 := (w7.setCell ⟨g7, 0, none⟩ (.int .i64 (wrap64 (wrap64 (bk + 1) * a1))))) ?hg ?ho ?hn ?hr ?_; (case ho => rfl); (case hg => rfl); (case hn => rfl); (case hr => first | (go_simp; done) | (go_simp; rfl)); intro w8' hw; have S8 : Aside0 (TrimS w w8' g4 g6 g7 a1 (wrap64 (wrap64 (bk + 1) * a1)) t1 (.slice (some ⟨g, 0, none⟩) (kept a1 bk l').length c) (kept a1 bk l')) := ⟨by rw [hw]; exact S7.out.set 0 _ rfl S7.out.row⟩; clear hw hl_8 hl_4 h7_0 z7_0 S7 K87))
              go_roundg k1
              case measure => have := HK1.out; omega
              case rel => exact ⟨_, _, _, _, H', ⟨by have := HK1.out; omega⟩, S8⟩
          · rw [if_neg c1] at H
            have c1b : decide ((l'.length : Int) > a2) = false := decide_eq_false c1
            have E := Aside0.mk (Option.some.inj H)
            clear c1 H
            go_wp2
            go_quiet (fail)
            have S2 := Aside0.mk (S.out.step (pw_below_drewN (Below.refl _ _) nq))
            clear S hl4 h7_0 h7_1 h7_2
            generalize wr.drewN nq = wd at *
            have h7_0 : wd.cell? ⟨g7, 0, none⟩ = some (.int .i64 a) := (blk_cell S2.out.b7 0).trans rfl
            have h7_1 : wd.cell? ⟨g7, 1, none⟩ = some (.int .i64 t1) := (blk_cell S2.out.b7 1).trans rfl
            have h7_2 : wd.cell? ⟨g7, 2, none⟩ = some (.slice A l'.length c) := (blk_cell S2.out.b7 2).trans rfl
            have h6_0 : wd.cell? ⟨g6, 0, none⟩ = some (.int .i64 0) := (blk_cell S2.out.b6 0).trans rfl
            have h6_1 : wd.cell? ⟨g6, 1, none⟩ = some (.int .i64 0) := (blk_cell S2.out.b6 1).trans rfl
            have h6_2 : wd.cell? ⟨g6, 2, none⟩ = some (.slice none 0 0) := (blk_cell S2.out.b6 2).trans rfl
            have z6_0 := blk_frozen S2.out.b6 0
            have z6_1 := blk_frozen S2.out.b6 1
            have z6_2 := blk_frozen S2.out.b6 2
            go_wp2_with (first | ((with_reducible refine gate_store (t := 26) (p := 6) rfl ?_); refine store_event (t := 26) (p := 6) (v := ?vo_we3) (w1 := (((wd.setCell ⟨g6, 0, none⟩ (.int .i64 a)).setCell ⟨g6, 1, none⟩ (.int .i64 t1)).setCell ⟨g6, 2, none⟩ (.slice A l'.length c))) ?hg ?ho ?hn ?hr ?_; (case ho => rfl); (case hg => rfl); (case hn => rfl); (case hr => first | (go_simp; done) | (go_simp; rfl)); intro we hw; have K6e : Aside0 (we.heap[g6]? = some (.cells #[.int .i64 a, .int .i64 t1, .slice A l'.length c] 26 (0, 0))) := ⟨by rw [hw]; exact blk_put (blk_put (blk_put S2.out.b6 0 _ rfl) 1 _ rfl) 2 _ rfl⟩; have Re : Aside0 (Kd.R k_Item 33 we w.heap.size (fun _ => True) (.slice A l'.length c) l') := ⟨by rw [hw]; exact Kd.R_mono (Kd.R_far (p := ⟨g6, 2, none⟩) (Kd.R_far (p := ⟨g6, 1, none⟩) (Kd.R_far (p := ⟨g6, 0, none⟩) (Kd.R_types S2.out.row S2.out.b6 (by decide)) (fun _ hk => hk.2) _) (fun _ hk => hk.2) _) (fun _ hk => hk.2) _) (fun _ _ => trivial)⟩; have Be : Aside0 (Below w.heap.size w we) := ⟨by rw [hw]; exact below_set (below_set (below_set S2.out.below S2.out.ge6) S2.out.ge6) S2.out.ge6⟩; clear hw))
            refine bodyPost_ret (results_cell_row rfl _ _ g6 26 #[.int .i64 a, .int .i64 t1, .slice A l'.length c] (0, 0) _ rfl K6e.out Try.underlying26 rfl (by kernel_rfl)) rfl ?_
            obtain ⟨rfl, rfl, rfl⟩ : a = r1 ∧ t1 = r2 ∧ l' = r3 := by have h_ := E.out; simpa using h_
            exact ⟨_, rfl, Re.out, Be.out⟩
end Go.Proofs.Ythmjhhkheohgfaa.Q
