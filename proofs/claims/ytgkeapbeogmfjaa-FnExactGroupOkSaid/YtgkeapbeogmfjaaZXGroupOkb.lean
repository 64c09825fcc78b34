/- Made by a program of ours out of the print of the loaded functions: for each of some functions a plain function, and the walk that shows that a call comes to what it says. No condition but those of each theorem. -/
import Derived.Test.YtgkeapbeogmfjaaZXGroupOk0
import Derived.Test.YtgkeapbeogmfjaaZXGroupOka
namespace Go.Proofs.Ytgkeapbeogmfjaa.Q
open Go.RowKit Go.Proofs.YtgkeapbeogmfjaaW.PrintWords Go.Proofs.YtgkeapbeogmfjaaW.PrintLast Go.Proofs.YtgkeapbeogmfjaaW.PrintMore
attribute [local go_sem] max2_int min2_int max_two min_two max_three min_three max_four min_four   -- for this text's walks alone
set_option linter.unusedVariables false
set_option linter.unusedSimpArgs false

/-! ### impl_GroupOk: function 18 -/
def impl_GroupOk.l0 : Nat → Int → List Int → Int → Int → Int → List Int → List Int → List Int → Option (Bool)
  | 0, _, _, _, _, _, _, _, _ => none
  | k + 1, x1, x8, x9, x10, x798000, x798001, x798002, x798003 => if x10 < x9 then (if 0 ≤ x10 then (if x10 < (x8.length : Int) then ((impl_isClient.f (rd x8 x10)).bind fun t799 => (if t799 = true then (if x10 > 0 then (if 0 ≤ (wrap64 (x10 - 1)) then (if (wrap64 (x10 - 1)) < (x798001.length : Int) then (if (rd x798001 (wrap64 (x10 - 1))) ≥ (rd x8 x10) then (some false) else (impl_GroupOk.l0 k x1 x8 x9 (wrap64 (x10 + 1)) x798000 x798001 x798002 x798003)) else (none)) else (none)) else (impl_GroupOk.l0 k x1 x8 x9 (wrap64 (x10 + 1)) x798000 x798001 x798002 x798003)) else (some false))) else (none)) else (none)) else ((impl_within.f x798000 0 100000).bind fun t801 => (if t801 = true then (if (x798002.length : Int) = (x798001.length : Int) then ((impl_allWithin.f x798002 0 100000).bind fun t802 => (if t802 = true then (if (x798003.length : Int) = x1 then ((impl_allWithin.f x798003 0 100000).bind fun t803 => (some t803)) else (some false)) else (some false))) else (some false)) else (some false)))
def impl_GroupOk.f (k : Nat) (a0_0 : Int) (l0_1 : List Int) (l0_2 : List Int) (l0_3 : List Int) (a1 : Int) : Option (Bool) := impl_GroupOk.l0 k a1 l0_1 (l0_1.length : Int) 0 a0_0 l0_1 l0_2 l0_3
theorem impl_GroupOk.mono_l : ∀ k, (∀ y0 y1 y2 y3 y4 y5 y6 y7, LeO (impl_GroupOk.l0 k y0 y1 y2 y3 y4 y5 y6 y7) (impl_GroupOk.l0 (k + 1) y0 y1 y2 y3 y4 y5 y6 y7))
  | 0 => fun _ _ _ _ _ _ _ _ r h => by simp [impl_GroupOk.l0] at h
  | k + 1 => by
    have ih0 := impl_GroupOk.mono_l k
    · intro y0 y1 y2 y3 y4 y5 y6 y7
      unfold impl_GroupOk.l0
      repeat' first
      | (with_reducible exact ih0 _ _ _ _ _ _ _ _)
      | (with_reducible exact LeO.refl _)
      | (with_reducible exact LeO.none _)
      | (with_reducible refine LeO.ite ?_ ?_)
      | (with_reducible refine LeO.bind ?_ (fun _ => ?_))
      | exact ih0 _ _ _ _ _ _ _ _
      | exact LeO.none _
      | refine LeO.ite ?_ ?_
      | refine LeO.bind ?_ (fun _ => ?_)
theorem impl_GroupOk.mono : ∀ a0 a1 a2 a3 a4 k, LeO (impl_GroupOk.f k a0 a1 a2 a3 a4) (impl_GroupOk.f (k + 1) a0 a1 a2 a3 a4) := by
  intro a0 a1 a2 a3 a4 k
  have ih0 := impl_GroupOk.mono_l k
  unfold impl_GroupOk.f
  repeat' first
      | (with_reducible exact ih0 _ _ _ _ _ _ _ _)
      | (with_reducible exact LeO.refl _)
      | (with_reducible exact LeO.none _)
      | (with_reducible refine LeO.ite ?_ ?_)
      | (with_reducible refine LeO.bind ?_ (fun _ => ?_))
      | exact ih0 _ _ _ _ _ _ _ _
      | exact LeO.none _
      | refine LeO.ite ?_ ?_
      | refine LeO.bind ?_ (fun _ => ?_)
set_option maxHeartbeats 8000000 in
set_option maxRecDepth 100000 in
theorem impl_GroupOk.calls (k : Nat) (a0_0 : Int) (A0_1 : Option Addr) (c0_1 : Nat) (l0_1 : List Int) (A0_2 : Option Addr) (c0_2 : Nat) (l0_2 : List Int) (A0_3 : Option Addr) (c0_3 : Nat) (l0_3 : List Int) (a1 : Int) (r : Bool) (w : World) (hr0_1 : Kd.C (Kd.int .i64) w A0_1 l0_1.length l0_1) (hc0_1 : l0_1.length ≤ c0_1) (hr0_2 : Kd.C (Kd.int .i64) w A0_2 l0_2.length l0_2) (hc0_2 : l0_2.length ≤ c0_2) (hr0_3 : Kd.C (Kd.int .i64) w A0_3 l0_3.length l0_3) (hc0_3 : l0_3.length ≤ c0_3) (h : impl_GroupOk.f k a0_0 l0_1 l0_2 l0_3 a1 = some r) :
    Calls Try.prog 18 #[.agg #[.int .i64 a0_0, .slice A0_1 l0_1.length c0_1, .slice A0_2 l0_2.length c0_2, .slice A0_3 l0_3.length c0_3], .int .i64 a1] w fun e w' => e = .returned (.bool r) ∧ Below w.heap.size w w' := by
  have hu27 := Try.underlying27
  have HR0_1 := Aside0.mk hr0_1
  have HC0_1 := Aside0.mk hc0_1
  clear hr0_1 hc0_1
  have HR0_2 := Aside0.mk hr0_2
  have HC0_2 := Aside0.mk hc0_2
  clear hr0_2 hc0_2
  have HR0_3 := Aside0.mk hr0_3
  have HC0_3 := Aside0.mk hc0_3
  clear hr0_3 hc0_3
  have HB := Aside0.mk (Below.refl w.heap.size w)
  have H : (impl_GroupOk.l0 k a1 l0_1 (l0_1.length : Int) 0 a0_0 l0_1 l0_2 l0_3) = some r := h
  clear h
  have H' := Aside0.mk H
  clear H
  go_enter Try.func18, Try.ntmps18
  go_wp2_with (first | ((with_reducible refine gate_dst (N := 2) rfl ?_); (try (refine gate_guard (by rfl) ?_; dsimp only)); refine box_event ?hg (N := 2) ?hd (cs := #[.int .i64 a0_0, .slice A0_1 l0_1.length c0_1, .slice A0_2 l0_2.length c0_2, .slice A0_3 l0_3.length c0_3]) (t := 27) ?hr ?_; (case hd => rfl); (case hg => rfl); (case hr => first | (go_simp; done) | (go_simp; rfl)); intro gb797 hg w3 hbox hb; have n0_ := Aside0.mk (below_step (by repeat (first | (with_reducible first | exact HB.out | apply below_alloc | apply pw_below_drewN | apply below_drew1) | exact HB.out)) hb); have n1_ := Aside0.mk (hbox); have n2_ := Aside0.mk ((by rw [hg]; exact (below_size (by repeat (first | (with_reducible first | exact HB.out | apply below_alloc | apply pw_below_drewN | apply below_drew1) | exact HB.out))) : w.heap.size ≤ gb797)); have n3_ := Aside0.mk ((by rw [hg]; exact (below_size (by repeat (first | (with_reducible first | exact HB.out | apply below_alloc | apply pw_below_drewN | apply below_drew1) | exact HB.out))) : w.heap.size ≤ gb797)); clear HB; have HB := n0_; have BK797 := n1_; have GW797 := n2_; have GE797 := n3_; clear n0_ n1_ n2_ n3_; clear hb hbox hg; have hcz4_0 : w3.cell? ⟨gb797, 0, none⟩ = some (.int .i64 a0_0) := (blk_cell BK797.out 0).trans rfl; have hcz4_1 : w3.cell? ⟨gb797, 1, none⟩ = some (.slice A0_1 l0_1.length c0_1) := (blk_cell BK797.out 1).trans rfl; have hcz4_2 : w3.cell? ⟨gb797, 2, none⟩ = some (.slice A0_2 l0_2.length c0_2) := (blk_cell BK797.out 2).trans rfl; have hcz4_3 : w3.cell? ⟨gb797, 3, none⟩ = some (.slice A0_3 l0_3.length c0_3) := (blk_cell BK797.out 3).trans rfl; have hfz4_0 := blk_frozen BK797.out 0; have hfz4_1 := blk_frozen BK797.out 1; have hfz4_2 := blk_frozen BK797.out 2; have hfz4_3 := blk_frozen BK797.out 3))
  go_loopg [10] k (fun kq v10 w' => ∃ (x10_1 : Int), v10 = .int .i64 x10_1 ∧ Aside0 (impl_GroupOk.l0 kq a1 l0_1 (l0_1.length : Int) x10_1 a0_0 l0_1 l0_2 l0_3 = some r) ∧ Aside0 (kq ≤ k) ∧ Aside0 (w'.heap[gb797]? = some (.cells #[.int .i64 a0_0, (.slice A0_1 l0_1.length c0_1), (.slice A0_2 l0_2.length c0_2), (.slice A0_3 l0_3.length c0_3)] 27 (0, 0))) ∧ Aside0 (Below w.heap.size w w'))
  case atStart => exact ⟨(0), (by first | rfl | (simp; done) | (simp [*]; done)), H', ⟨Nat.le_refl _⟩, ⟨by (with_reducible repeat (first | refine blk_drewN ?_ _ | refine blk_drew ?_ | refine blk_alloc ?_ _)); exact BK797.out⟩, ⟨by repeat (first | (with_reducible first | exact HB.out | apply below_alloc | apply pw_below_drewN | apply below_drew1 | refine below_set ?_ GE797.out) | exact HB.out)⟩⟩
  case round =>
    clear H'
    try clear c1
    try clear p2
    try clear hcz4_0
    try clear hcz4_1
    try clear hcz4_2
    try clear hcz4_3
    try clear hfz4_0
    try clear hfz4_1
    try clear hfz4_2
    try clear hfz4_3
    obtain ⟨x10_1, rfl, HA, HK1, BK797, HB⟩ := hrel
    cases gk with
    | zero => exact absurd HA.out (by simp [impl_GroupOk.l0])
    | succ k1 =>
      have H := HA.out
      clear HA
      simp only [impl_GroupOk.l0] at H
      by_cases c5 : x10_1 < (l0_1.length : Int)
      · rw [if_pos c5] at H
        have c5b0 : decide (x10_1 < (l0_1.length : Int)) = true := decide_eq_true c5
        clear c5
        by_cases c6 : 0 ≤ x10_1
        · rw [if_pos c6] at H
          have c6b0 : decide (0 ≤ x10_1) = true := decide_eq_true c6
          clear c6
          by_cases c7 : x10_1 < (l0_1.length : Int)
          · rw [if_pos c7] at H
            have c7b0 : decide (x10_1 < (l0_1.length : Int)) = true := decide_eq_true c7
            clear c7
            replace H := Option.bind_eq_some_iff.mp H
            obtain ⟨t799, A80, H⟩ := H
            replace H : (if t799 = true then (if x10_1 > 0 then (if 0 ≤ (wrap64 (x10_1 - 1)) then (if (wrap64 (x10_1 - 1)) < (l0_1.length : Int) then (if (rd l0_1 (wrap64 (x10_1 - 1))) ≥ (rd l0_1 x10_1) then (some false) else (impl_GroupOk.l0 k1 a1 l0_1 (l0_1.length : Int) (wrap64 (x10_1 + 1)) a0_0 l0_1 l0_2 l0_3)) else (none)) else (none)) else (impl_GroupOk.l0 k1 a1 l0_1 (l0_1.length : Int) (wrap64 (x10_1 + 1)) a0_0 l0_1 l0_2 l0_3)) else (some false)) = some r := H
            have A8 := Aside0.mk A80
            clear A80
            by_cases c9 : t799 = true
            · subst c9
              have H1 : (if x10_1 > 0 then (if 0 ≤ (wrap64 (x10_1 - 1)) then (if (wrap64 (x10_1 - 1)) < (l0_1.length : Int) then (if (rd l0_1 (wrap64 (x10_1 - 1))) ≥ (rd l0_1 x10_1) then (some false) else (impl_GroupOk.l0 k1 a1 l0_1 (l0_1.length : Int) (wrap64 (x10_1 + 1)) a0_0 l0_1 l0_2 l0_3)) else (none)) else (none)) else (impl_GroupOk.l0 k1 a1 l0_1 (l0_1.length : Int) (wrap64 (x10_1 + 1)) a0_0 l0_1 l0_2 l0_3)) = some r := by rw [if_pos rfl] at H; exact H
              clear H
              have H := H1
              clear H1
              by_cases c10 : x10_1 > 0
              · rw [if_pos c10] at H
                have c10b0 : decide (0 < x10_1) = true := decide_eq_true c10
                clear c10
                obtain ⟨ji11, hji11⟩ : ∃ j_ : Int, (wrap64 (x10_1 - 1)) = j_ := ⟨_, rfl⟩
                replace H : (if 0 ≤ (ji11) then (if (ji11) < (l0_1.length : Int) then (if (rd l0_1 (ji11)) ≥ (rd l0_1 x10_1) then (some false) else (impl_GroupOk.l0 k1 a1 l0_1 (l0_1.length : Int) (wrap64 (x10_1 + 1)) a0_0 l0_1 l0_2 l0_3)) else (none)) else (none)) = some r := by first | (rw [hji11] at H; exact H) | (simp only [hji11] at H ⊢; exact H)
                (try rw [hji11] at A8)
                have hji11w : (IntKind.i64.wrap (x10_1 - 1)) = ji11 := (i64_w _).trans hji11
                by_cases c12 : 0 ≤ (ji11)
                · rw [if_pos c12] at H
                  have c12b0 : decide (0 ≤ (ji11)) = true := decide_eq_true c12
                  clear c12
                  by_cases c13 : (ji11) < (l0_1.length : Int)
                  · rw [if_pos c13] at H
                    have c13b0 : decide ((ji11) < (l0_1.length : Int)) = true := decide_eq_true c13
                    clear c13
                    by_cases c14 : (rd l0_1 (ji11)) ≥ (rd l0_1 x10_1)
                    · rw [if_pos c14] at H
                      have c14b0 : decide ((rd l0_1 x10_1) ≤ (rd l0_1 (ji11))) = true := decide_eq_true c14
                      clear c14
                      obtain rfl := Option.some.inj H
                      have p798 : 0 ≤ (x10_1 : Int) := of_decide_eq_true (by first | (with_reducible assumption) | assumption)
                      have q798 : x10_1 < (l0_1.length : Int) := of_decide_eq_true (by first | (with_reducible assumption) | assumption)
                      obtain ⟨ad798, e798, hx798_0⟩ := Kd.at_int HR0_1.out x10_1 p798 q798
                      cases e798
                      replace hx798_0 := (HB.out.cell (World.block_lt_of_cell? w _ hx798_0)).trans hx798_0
                      replace p798 := eq_true p798
                      replace q798 := eq_true q798
                      go_wp2_with (first | ((with_reducible refine gate_callee (f := 79) rfl ?_); refine goesL_ (some 16) rfl rfl Try.func79 (by kernel_rfl) rfl #[.int .i64 (rd l0_1 x10_1)] rfl (by (try simp only [List.map_toArray, List.map_cons, List.map_nil]); first | done | rfl | (simp only [List.length_drop, List.length_take]; rfl)) ?_; (with_reducible refine (impl_isClient.calls (rd l0_1 x10_1) true _ A8.out).mono ?_); rintro e w' ⟨rfl, ⟨nd, rfl⟩⟩; refine ⟨_, rfl, ?_⟩; have hcz15_0 : wr.cell? ⟨gb797, 0, none⟩ = some (.int .i64 a0_0) := (blk_cell BK797.out 0).trans rfl; have hcz15_1 : wr.cell? ⟨gb797, 1, none⟩ = some (.slice (some ad798) l0_1.length c0_1) := (blk_cell BK797.out 1).trans rfl; have hcz15_2 : wr.cell? ⟨gb797, 2, none⟩ = some (.slice A0_2 l0_2.length c0_2) := (blk_cell BK797.out 2).trans rfl; have hcz15_3 : wr.cell? ⟨gb797, 3, none⟩ = some (.slice A0_3 l0_3.length c0_3) := (blk_cell BK797.out 3).trans rfl; have hfz15_0 := blk_frozen BK797.out 0; have hfz15_1 := blk_frozen BK797.out 1; have hfz15_2 := blk_frozen BK797.out 2; have hfz15_3 := blk_frozen BK797.out 3; have p800 : 0 ≤ ((ji11) : Int) := of_decide_eq_true (by first | (with_reducible assumption) | assumption); have q800 : (ji11) < (l0_1.length : Int) := of_decide_eq_true (by first | (with_reducible assumption) | assumption); obtain ⟨ad800, e800, hx800_0⟩ := Kd.at_int HR0_1.out (ji11) p800 q800; obtain rfl : ad798 = ad800 := (by injection e800); replace hx800_0 := (HB.out.cell (World.block_lt_of_cell? w _ hx800_0)).trans hx800_0; replace p800 := eq_true p800; replace q800 := eq_true q800))
                      go_ret
                      exact ⟨by first | rfl | (simp [errW_none, errW_some] <;> rfl) | (simp only [← hji11]; first | rfl | (simp [errW_none, errW_some] <;> rfl)) | (simp [*, errW_none, errW_some] <;> rfl), by repeat (first | (with_reducible first | exact HB.out | apply below_alloc | apply pw_below_drewN | apply below_drew1 | refine below_set ?_ GE797.out) | exact HB.out)⟩
                    · rw [if_neg c14] at H
                      have c14b0 : decide ((rd l0_1 x10_1) ≤ (rd l0_1 (ji11))) = false := decide_eq_false c14
                      clear c14
                      have H' := Aside0.mk H
                      clear H
                      have p798 : 0 ≤ (x10_1 : Int) := of_decide_eq_true (by first | (with_reducible assumption) | assumption)
                      have q798 : x10_1 < (l0_1.length : Int) := of_decide_eq_true (by first | (with_reducible assumption) | assumption)
                      obtain ⟨ad798, e798, hx798_0⟩ := Kd.at_int HR0_1.out x10_1 p798 q798
                      cases e798
                      replace hx798_0 := (HB.out.cell (World.block_lt_of_cell? w _ hx798_0)).trans hx798_0
                      replace p798 := eq_true p798
                      replace q798 := eq_true q798
                      go_wp2_with (first | ((with_reducible refine gate_callee (f := 79) rfl ?_); refine goesL_ (some 16) rfl rfl Try.func79 (by kernel_rfl) rfl #[.int .i64 (rd l0_1 x10_1)] rfl (by (try simp only [List.map_toArray, List.map_cons, List.map_nil]); first | done | rfl | (simp only [List.length_drop, List.length_take]; rfl)) ?_; (with_reducible refine (impl_isClient.calls (rd l0_1 x10_1) true _ A8.out).mono ?_); rintro e w' ⟨rfl, ⟨nd, rfl⟩⟩; refine ⟨_, rfl, ?_⟩; have hcz16_0 : wr.cell? ⟨gb797, 0, none⟩ = some (.int .i64 a0_0) := (blk_cell BK797.out 0).trans rfl; have hcz16_1 : wr.cell? ⟨gb797, 1, none⟩ = some (.slice (some ad798) l0_1.length c0_1) := (blk_cell BK797.out 1).trans rfl; have hcz16_2 : wr.cell? ⟨gb797, 2, none⟩ = some (.slice A0_2 l0_2.length c0_2) := (blk_cell BK797.out 2).trans rfl; have hcz16_3 : wr.cell? ⟨gb797, 3, none⟩ = some (.slice A0_3 l0_3.length c0_3) := (blk_cell BK797.out 3).trans rfl; have hfz16_0 := blk_frozen BK797.out 0; have hfz16_1 := blk_frozen BK797.out 1; have hfz16_2 := blk_frozen BK797.out 2; have hfz16_3 := blk_frozen BK797.out 3; have p800 : 0 ≤ ((ji11) : Int) := of_decide_eq_true (by first | (with_reducible assumption) | assumption); have q800 : (ji11) < (l0_1.length : Int) := of_decide_eq_true (by first | (with_reducible assumption) | assumption); obtain ⟨ad800, e800, hx800_0⟩ := Kd.at_int HR0_1.out (ji11) p800 q800; obtain rfl : ad798 = ad800 := (by injection e800); replace hx800_0 := (HB.out.cell (World.block_lt_of_cell? w _ hx800_0)).trans hx800_0; replace p800 := eq_true p800; replace q800 := eq_true q800))
                      go_roundg k1
                      case measure => have := HK1.out; omega
                      case rel => exact ⟨(wrap64 (x10_1 + 1)), (by first | rfl | (simp; done) | (simp [*]; done)), H', ⟨by have := HK1.out; omega⟩, ⟨by (with_reducible repeat (first | refine blk_drewN ?_ _ | refine blk_drew ?_ | refine blk_alloc ?_ _)); exact BK797.out⟩, ⟨by repeat (first | (with_reducible first | exact HB.out | apply below_alloc | apply pw_below_drewN | apply below_drew1 | refine below_set ?_ GE797.out) | exact HB.out)⟩⟩
                  · rw [if_neg c13] at H
                    exact absurd H (by simp)
                · rw [if_neg c12] at H
                  exact absurd H (by simp)
              · rw [if_neg c10] at H
                have c10b0 : decide (0 < x10_1) = false := decide_eq_false c10
                clear c10
                have H' := Aside0.mk H
                clear H
                have p798 : 0 ≤ (x10_1 : Int) := of_decide_eq_true (by first | (with_reducible assumption) | assumption)
                have q798 : x10_1 < (l0_1.length : Int) := of_decide_eq_true (by first | (with_reducible assumption) | assumption)
                obtain ⟨ad798, e798, hx798_0⟩ := Kd.at_int HR0_1.out x10_1 p798 q798
                cases e798
                replace hx798_0 := (HB.out.cell (World.block_lt_of_cell? w _ hx798_0)).trans hx798_0
                replace p798 := eq_true p798
                replace q798 := eq_true q798
                go_wp2_with (first | ((with_reducible refine gate_callee (f := 79) rfl ?_); refine goesL_ (some 16) rfl rfl Try.func79 (by kernel_rfl) rfl #[.int .i64 (rd l0_1 x10_1)] rfl (by (try simp only [List.map_toArray, List.map_cons, List.map_nil]); first | done | rfl | (simp only [List.length_drop, List.length_take]; rfl)) ?_; (with_reducible refine (impl_isClient.calls (rd l0_1 x10_1) true _ A8.out).mono ?_); rintro e w' ⟨rfl, ⟨nd, rfl⟩⟩; refine ⟨_, rfl, ?_⟩))
                go_roundg k1
                case measure => have := HK1.out; omega
                case rel => exact ⟨(wrap64 (x10_1 + 1)), (by first | rfl | (simp; done) | (simp [*]; done)), H', ⟨by have := HK1.out; omega⟩, ⟨by (with_reducible repeat (first | refine blk_drewN ?_ _ | refine blk_drew ?_ | refine blk_alloc ?_ _)); exact BK797.out⟩, ⟨by repeat (first | (with_reducible first | exact HB.out | apply below_alloc | apply pw_below_drewN | apply below_drew1 | refine below_set ?_ GE797.out) | exact HB.out)⟩⟩
            · replace c9 := Bool.eq_false_iff.mpr c9
              subst c9
              have H1 : (some false) = some r := by rw [if_neg (show ¬ (false = true) by decide)] at H; exact H
              clear H
              have H := H1
              clear H1
              obtain rfl := Option.some.inj H
              have p798 : 0 ≤ (x10_1 : Int) := of_decide_eq_true (by first | (with_reducible assumption) | assumption)
              have q798 : x10_1 < (l0_1.length : Int) := of_decide_eq_true (by first | (with_reducible assumption) | assumption)
              obtain ⟨ad798, e798, hx798_0⟩ := Kd.at_int HR0_1.out x10_1 p798 q798
              cases e798
              replace hx798_0 := (HB.out.cell (World.block_lt_of_cell? w _ hx798_0)).trans hx798_0
              replace p798 := eq_true p798
              replace q798 := eq_true q798
              go_wp2_with (first | ((with_reducible refine gate_callee (f := 79) rfl ?_); refine goesL_ (some 16) rfl rfl Try.func79 (by kernel_rfl) rfl #[.int .i64 (rd l0_1 x10_1)] rfl (by (try simp only [List.map_toArray, List.map_cons, List.map_nil]); first | done | rfl | (simp only [List.length_drop, List.length_take]; rfl)) ?_; (with_reducible refine (impl_isClient.calls (rd l0_1 x10_1) false _ A8.out).mono ?_); rintro e w' ⟨rfl, ⟨nd, rfl⟩⟩; refine ⟨_, rfl, ?_⟩))
              go_ret
              exact ⟨by first | rfl | (simp [errW_none, errW_some] <;> rfl) | (simp [*, errW_none, errW_some] <;> rfl), by repeat (first | (with_reducible first | exact HB.out | apply below_alloc | apply pw_below_drewN | apply below_drew1 | refine below_set ?_ GE797.out) | exact HB.out)⟩
          · rw [if_neg c7] at H
            exact absurd H (by simp)
        · rw [if_neg c6] at H
          exact absurd H (by simp)
      · rw [if_neg c5] at H
        have c5b0 : decide (x10_1 < (l0_1.length : Int)) = false := decide_eq_false c5
        clear c5
        replace H := Option.bind_eq_some_iff.mp H
        obtain ⟨t801, A170, H⟩ := H
        replace H : (if t801 = true then (if (l0_2.length : Int) = (l0_1.length : Int) then ((impl_allWithin.f l0_2 0 100000).bind fun t802 => (if t802 = true then (if (l0_3.length : Int) = a1 then ((impl_allWithin.f l0_3 0 100000).bind fun t803 => (some t803)) else (some false)) else (some false))) else (some false)) else (some false)) = some r := H
        have A17 := Aside0.mk A170
        clear A170
        by_cases c18 : t801 = true
        · subst c18
          have H1 : (if (l0_2.length : Int) = (l0_1.length : Int) then ((impl_allWithin.f l0_2 0 100000).bind fun t802 => (if t802 = true then (if (l0_3.length : Int) = a1 then ((impl_allWithin.f l0_3 0 100000).bind fun t803 => (some t803)) else (some false)) else (some false))) else (some false)) = some r := by rw [if_pos rfl] at H; exact H
          clear H
          have H := H1
          clear H1
          by_cases c19 : (l0_2.length : Int) = (l0_1.length : Int)
          · rw [if_pos c19] at H
            have c19b0 : ((l0_2.length : Int) == (l0_1.length : Int)) = true := beq_iff_eq.mpr c19
            have c19b1 : ((l0_2.length : Int) != (l0_1.length : Int)) = false := bne_eq_false_iff_eq.mpr c19
            have c19b2 : (l0_2.length == l0_1.length) = true := by first | simpa using c19 | (simp at c19 ⊢; omega)
            clear c19
            replace H := Option.bind_eq_some_iff.mp H
            obtain ⟨t802, A200, H⟩ := H
            replace H : (if t802 = true then (if (l0_3.length : Int) = a1 then ((impl_allWithin.f l0_3 0 100000).bind fun t803 => (some t803)) else (some false)) else (some false)) = some r := H
            have A20 := Aside0.mk A200
            clear A200
            by_cases c21 : t802 = true
            · subst c21
              have H1 : (if (l0_3.length : Int) = a1 then ((impl_allWithin.f l0_3 0 100000).bind fun t803 => (some t803)) else (some false)) = some r := by rw [if_pos rfl] at H; exact H
              clear H
              have H := H1
              clear H1
              by_cases c22 : (l0_3.length : Int) = a1
              · rw [if_pos c22] at H
                have c22b0 : ((l0_3.length : Int) == a1) = true := beq_iff_eq.mpr c22
                have c22b1 : ((l0_3.length : Int) != a1) = false := bne_eq_false_iff_eq.mpr c22
                clear c22
                replace H := Option.bind_eq_some_iff.mp H
                obtain ⟨t803, A230, H⟩ := H
                replace H : (some t803) = some r := H
                have A23 := Aside0.mk A230
                clear A230
                obtain rfl := Option.some.inj H
                have hcz24_0 : wr.cell? ⟨gb797, 0, none⟩ = some (.int .i64 a0_0) := (blk_cell BK797.out 0).trans rfl
                have hcz24_1 : wr.cell? ⟨gb797, 1, none⟩ = some (.slice A0_1 l0_1.length c0_1) := (blk_cell BK797.out 1).trans rfl
                have hcz24_2 : wr.cell? ⟨gb797, 2, none⟩ = some (.slice A0_2 l0_2.length c0_2) := (blk_cell BK797.out 2).trans rfl
                have hcz24_3 : wr.cell? ⟨gb797, 3, none⟩ = some (.slice A0_3 l0_3.length c0_3) := (blk_cell BK797.out 3).trans rfl
                have hfz24_0 := blk_frozen BK797.out 0
                have hfz24_1 := blk_frozen BK797.out 1
                have hfz24_2 := blk_frozen BK797.out 2
                have hfz24_3 := blk_frozen BK797.out 3
                go_wp2_with (first | ((with_reducible refine gate_callee (f := 80) rfl ?_); refine goesL_ (some 35) rfl rfl Try.func80 (by kernel_rfl) rfl #[.int .i64 a0_0, .int .i64 0, .int .i64 100000] rfl (by (try simp only [List.map_toArray, List.map_cons, List.map_nil]); first | done | rfl | (simp only [List.length_drop, List.length_take]; rfl)) ?_; (with_reducible refine (impl_within.calls a0_0 0 100000 true _ A17.out).mono ?_); rintro e w' ⟨rfl, ⟨nd, rfl⟩⟩; refine ⟨_, rfl, ?_⟩) | (go_at_call 81; (with_reducible refine (impl_allWithin.calls _ _ l0_2 0 100000 true _ ?side1 ?side2 A20.out).mono ?_); (case side1 => repeat (first | exact (Kd.C_below HR0_2.out (by repeat (first | (with_reducible first | exact HB.out | apply below_alloc | apply pw_below_drewN | apply below_drew1 | refine below_set ?_ GE797.out) | exact HB.out))) | (with_reducible refine Kd.C_alloc ?_ _) | (with_reducible refine Kd.C_drewN ?_ _) | (with_reducible refine Kd.C_drew ?_))); (case side2 => exact HC0_2.out); rintro e w25 ⟨rfl, hb⟩; have n0_ := Aside0.mk (blk_below (g := gb797) (o := .cells #[.int .i64 a0_0, .slice A0_1 l0_1.length c0_1, .slice A0_2 l0_2.length c0_2, .slice A0_3 l0_3.length c0_3] 27 (0, 0)) (by (with_reducible repeat (first | refine blk_drewN ?_ _ | refine blk_drew ?_ | refine blk_alloc ?_ _)); exact BK797.out) hb); have n1_ := Aside0.mk (below_step (by repeat (first | (with_reducible first | exact HB.out | apply below_alloc | apply pw_below_drewN | apply below_drew1 | refine below_set ?_ GE797.out) | exact HB.out)) hb); clear BK797; clear HB; have BK797 := n0_; have HB := n1_; clear n0_ n1_; (try clear hb); (try clear hb2); (try clear hk); (try clear hi); have hcz26_0 : w25.cell? ⟨gb797, 0, none⟩ = some (.int .i64 a0_0) := (blk_cell BK797.out 0).trans rfl; have hcz26_1 : w25.cell? ⟨gb797, 1, none⟩ = some (.slice A0_1 l0_1.length c0_1) := (blk_cell BK797.out 1).trans rfl; have hcz26_2 : w25.cell? ⟨gb797, 2, none⟩ = some (.slice A0_2 l0_2.length c0_2) := (blk_cell BK797.out 2).trans rfl; have hcz26_3 : w25.cell? ⟨gb797, 3, none⟩ = some (.slice A0_3 l0_3.length c0_3) := (blk_cell BK797.out 3).trans rfl; have hfz26_0 := blk_frozen BK797.out 0; have hfz26_1 := blk_frozen BK797.out 1; have hfz26_2 := blk_frozen BK797.out 2; have hfz26_3 := blk_frozen BK797.out 3) | (go_at_call 81; (with_reducible refine (impl_allWithin.calls _ _ l0_3 0 100000 t803 _ ?side1 ?side2 A23.out).mono ?_); (case side1 => repeat (first | exact (Kd.C_below HR0_3.out HB.out) | (with_reducible refine Kd.C_alloc ?_ _) | (with_reducible refine Kd.C_drewN ?_ _) | (with_reducible refine Kd.C_drew ?_))); (case side2 => exact HC0_3.out); rintro e w27 ⟨rfl, hb⟩; have n0_ := Aside0.mk (blk_below (g := gb797) (o := .cells #[.int .i64 a0_0, .slice A0_1 l0_1.length c0_1, .slice A0_2 l0_2.length c0_2, .slice A0_3 l0_3.length c0_3] 27 (0, 0)) (by (with_reducible repeat (first | refine blk_drewN ?_ _ | refine blk_drew ?_ | refine blk_alloc ?_ _)); exact BK797.out) hb); have n1_ := Aside0.mk (below_step (by repeat (first | (with_reducible first | exact HB.out | apply below_alloc | apply pw_below_drewN | apply below_drew1 | refine below_set ?_ GE797.out) | exact HB.out)) hb); clear BK797; clear HB; have BK797 := n0_; have HB := n1_; clear n0_ n1_; (try clear hb); (try clear hb2); (try clear hk); (try clear hi)))
                go_ret
                exact ⟨by first | rfl | (simp [errW_none, errW_some] <;> rfl) | (simp [*, errW_none, errW_some] <;> rfl), by repeat (first | (with_reducible first | exact HB.out | apply below_alloc | apply pw_below_drewN | apply below_drew1 | refine below_set ?_ GE797.out) | exact HB.out)⟩
              · rw [if_neg c22] at H
                have c22b0 : ((l0_3.length : Int) == a1) = false := beq_eq_false_iff_ne.mpr c22
                have c22b1 : ((l0_3.length : Int) != a1) = true := bne_iff_ne.mpr c22
                obtain rfl := Option.some.inj H
                have hcz28_0 : wr.cell? ⟨gb797, 0, none⟩ = some (.int .i64 a0_0) := (blk_cell BK797.out 0).trans rfl
                have hcz28_1 : wr.cell? ⟨gb797, 1, none⟩ = some (.slice A0_1 l0_1.length c0_1) := (blk_cell BK797.out 1).trans rfl
                have hcz28_2 : wr.cell? ⟨gb797, 2, none⟩ = some (.slice A0_2 l0_2.length c0_2) := (blk_cell BK797.out 2).trans rfl
                have hcz28_3 : wr.cell? ⟨gb797, 3, none⟩ = some (.slice A0_3 l0_3.length c0_3) := (blk_cell BK797.out 3).trans rfl
                have hfz28_0 := blk_frozen BK797.out 0
                have hfz28_1 := blk_frozen BK797.out 1
                have hfz28_2 := blk_frozen BK797.out 2
                have hfz28_3 := blk_frozen BK797.out 3
                go_wp2_with (first | ((with_reducible refine gate_callee (f := 80) rfl ?_); refine goesL_ (some 35) rfl rfl Try.func80 (by kernel_rfl) rfl #[.int .i64 a0_0, .int .i64 0, .int .i64 100000] rfl (by (try simp only [List.map_toArray, List.map_cons, List.map_nil]); first | done | rfl | (simp only [List.length_drop, List.length_take]; rfl)) ?_; (with_reducible refine (impl_within.calls a0_0 0 100000 true _ A17.out).mono ?_); rintro e w' ⟨rfl, ⟨nd, rfl⟩⟩; refine ⟨_, rfl, ?_⟩) | (go_at_call 81; (with_reducible refine (impl_allWithin.calls _ _ l0_2 0 100000 true _ ?side1 ?side2 A20.out).mono ?_); (case side1 => repeat (first | exact (Kd.C_below HR0_2.out (by repeat (first | (with_reducible first | exact HB.out | apply below_alloc | apply pw_below_drewN | apply below_drew1 | refine below_set ?_ GE797.out) | exact HB.out))) | (with_reducible refine Kd.C_alloc ?_ _) | (with_reducible refine Kd.C_drewN ?_ _) | (with_reducible refine Kd.C_drew ?_))); (case side2 => exact HC0_2.out); rintro e w29 ⟨rfl, hb⟩; have n0_ := Aside0.mk (blk_below (g := gb797) (o := .cells #[.int .i64 a0_0, .slice A0_1 l0_1.length c0_1, .slice A0_2 l0_2.length c0_2, .slice A0_3 l0_3.length c0_3] 27 (0, 0)) (by (with_reducible repeat (first | refine blk_drewN ?_ _ | refine blk_drew ?_ | refine blk_alloc ?_ _)); exact BK797.out) hb); have n1_ := Aside0.mk (below_step (by repeat (first | (with_reducible first | exact HB.out | apply below_alloc | apply pw_below_drewN | apply below_drew1 | refine below_set ?_ GE797.out) | exact HB.out)) hb); clear BK797; clear HB; have BK797 := n0_; have HB := n1_; clear n0_ n1_; (try clear hb); (try clear hb2); (try clear hk); (try clear hi); have hcz30_0 : w29.cell? ⟨gb797, 0, none⟩ = some (.int .i64 a0_0) := (blk_cell BK797.out 0).trans rfl; have hcz30_1 : w29.cell? ⟨gb797, 1, none⟩ = some (.slice A0_1 l0_1.length c0_1) := (blk_cell BK797.out 1).trans rfl; have hcz30_2 : w29.cell? ⟨gb797, 2, none⟩ = some (.slice A0_2 l0_2.length c0_2) := (blk_cell BK797.out 2).trans rfl; have hcz30_3 : w29.cell? ⟨gb797, 3, none⟩ = some (.slice A0_3 l0_3.length c0_3) := (blk_cell BK797.out 3).trans rfl; have hfz30_0 := blk_frozen BK797.out 0; have hfz30_1 := blk_frozen BK797.out 1; have hfz30_2 := blk_frozen BK797.out 2; have hfz30_3 := blk_frozen BK797.out 3))
                go_ret
                exact ⟨by first | rfl | (simp [errW_none, errW_some] <;> rfl) | (simp [*, errW_none, errW_some] <;> rfl), by repeat (first | (with_reducible first | exact HB.out | apply below_alloc | apply pw_below_drewN | apply below_drew1 | refine below_set ?_ GE797.out) | exact HB.out)⟩
            · replace c21 := Bool.eq_false_iff.mpr c21
              subst c21
              have H1 : (some false) = some r := by rw [if_neg (show ¬ (false = true) by decide)] at H; exact H
              clear H
              have H := H1
              clear H1
              obtain rfl := Option.some.inj H
              have hcz31_0 : wr.cell? ⟨gb797, 0, none⟩ = some (.int .i64 a0_0) := (blk_cell BK797.out 0).trans rfl
              have hcz31_1 : wr.cell? ⟨gb797, 1, none⟩ = some (.slice A0_1 l0_1.length c0_1) := (blk_cell BK797.out 1).trans rfl
              have hcz31_2 : wr.cell? ⟨gb797, 2, none⟩ = some (.slice A0_2 l0_2.length c0_2) := (blk_cell BK797.out 2).trans rfl
              have hcz31_3 : wr.cell? ⟨gb797, 3, none⟩ = some (.slice A0_3 l0_3.length c0_3) := (blk_cell BK797.out 3).trans rfl
              have hfz31_0 := blk_frozen BK797.out 0
              have hfz31_1 := blk_frozen BK797.out 1
              have hfz31_2 := blk_frozen BK797.out 2
              have hfz31_3 := blk_frozen BK797.out 3
              go_wp2_with (first | ((with_reducible refine gate_callee (f := 80) rfl ?_); refine goesL_ (some 35) rfl rfl Try.func80 (by kernel_rfl) rfl #[.int .i64 a0_0, .int .i64 0, .int .i64 100000] rfl (by (try simp only [List.map_toArray, List.map_cons, List.map_nil]); first | done | rfl | (simp only [List.length_drop, List.length_take]; rfl)) ?_; (with_reducible refine (impl_within.calls a0_0 0 100000 true _ A17.out).mono ?_); rintro e w' ⟨rfl, ⟨nd, rfl⟩⟩; refine ⟨_, rfl, ?_⟩) | (go_at_call 81; (with_reducible refine (impl_allWithin.calls _ _ l0_2 0 100000 false _ ?side1 ?side2 A20.out).mono ?_); (case side1 => repeat (first | exact (Kd.C_below HR0_2.out (by repeat (first | (with_reducible first | exact HB.out | apply below_alloc | apply pw_below_drewN | apply below_drew1 | refine below_set ?_ GE797.out) | exact HB.out))) | (with_reducible refine Kd.C_alloc ?_ _) | (with_reducible refine Kd.C_drewN ?_ _) | (with_reducible refine Kd.C_drew ?_))); (case side2 => exact HC0_2.out); rintro e w32 ⟨rfl, hb⟩; have n0_ := Aside0.mk (blk_below (g := gb797) (o := .cells #[.int .i64 a0_0, .slice A0_1 l0_1.length c0_1, .slice A0_2 l0_2.length c0_2, .slice A0_3 l0_3.length c0_3] 27 (0, 0)) (by (with_reducible repeat (first | refine blk_drewN ?_ _ | refine blk_drew ?_ | refine blk_alloc ?_ _)); exact BK797.out) hb); have n1_ := Aside0.mk (below_step (by repeat (first | (with_reducible first | exact HB.out | apply below_alloc | apply pw_below_drewN | apply below_drew1 | refine below_set ?_ GE797.out) | exact HB.out)) hb); clear BK797; clear HB; have BK797 := n0_; have HB := n1_; clear n0_ n1_; (try clear hb); (try clear hb2); (try clear hk); (try clear hi)))
              go_ret
              exact ⟨by first | rfl | (simp [errW_none, errW_some] <;> rfl) | (simp [*, errW_none, errW_some] <;> rfl), by repeat (first | (with_reducible first | exact HB.out | apply below_alloc | apply pw_below_drewN | apply below_drew1 | refine below_set ?_ GE797.out) | exact HB.out)⟩
          · rw [if_neg c19] at H
            have c19b0 : ((l0_2.length : Int) == (l0_1.length : Int)) = false := beq_eq_false_iff_ne.mpr c19
            have c19b1 : ((l0_2.length : Int) != (l0_1.length : Int)) = true := bne_iff_ne.mpr c19
            have c19b2 : (l0_2.length == l0_1.length) = false := by first | simpa using c19 | (simp at c19 ⊢; omega)
            obtain rfl := Option.some.inj H
            have hcz33_0 : wr.cell? ⟨gb797, 0, none⟩ = some (.int .i64 a0_0) := (blk_cell BK797.out 0).trans rfl
            have hcz33_1 : wr.cell? ⟨gb797, 1, none⟩ = some (.slice A0_1 l0_1.length c0_1) := (blk_cell BK797.out 1).trans rfl
            have hcz33_2 : wr.cell? ⟨gb797, 2, none⟩ = some (.slice A0_2 l0_2.length c0_2) := (blk_cell BK797.out 2).trans rfl
            have hcz33_3 : wr.cell? ⟨gb797, 3, none⟩ = some (.slice A0_3 l0_3.length c0_3) := (blk_cell BK797.out 3).trans rfl
            have hfz33_0 := blk_frozen BK797.out 0
            have hfz33_1 := blk_frozen BK797.out 1
            have hfz33_2 := blk_frozen BK797.out 2
            have hfz33_3 := blk_frozen BK797.out 3
            go_wp2_with (first | ((with_reducible refine gate_callee (f := 80) rfl ?_); refine goesL_ (some 35) rfl rfl Try.func80 (by kernel_rfl) rfl #[.int .i64 a0_0, .int .i64 0, .int .i64 100000] rfl (by (try simp only [List.map_toArray, List.map_cons, List.map_nil]); first | done | rfl | (simp only [List.length_drop, List.length_take]; rfl)) ?_; (with_reducible refine (impl_within.calls a0_0 0 100000 true _ A17.out).mono ?_); rintro e w' ⟨rfl, ⟨nd, rfl⟩⟩; refine ⟨_, rfl, ?_⟩))
            go_ret
            exact ⟨by first | rfl | (simp [errW_none, errW_some] <;> rfl) | (simp [*, errW_none, errW_some] <;> rfl), by repeat (first | (with_reducible first | exact HB.out | apply below_alloc | apply pw_below_drewN | apply below_drew1 | refine below_set ?_ GE797.out) | exact HB.out)⟩
        · replace c18 := Bool.eq_false_iff.mpr c18
          subst c18
          have H1 : (some false) = some r := by rw [if_neg (show ¬ (false = true) by decide)] at H; exact H
          clear H
          have H := H1
          clear H1
          obtain rfl := Option.some.inj H
          have hcz34_0 : wr.cell? ⟨gb797, 0, none⟩ = some (.int .i64 a0_0) := (blk_cell BK797.out 0).trans rfl
          have hcz34_1 : wr.cell? ⟨gb797, 1, none⟩ = some (.slice A0_1 l0_1.length c0_1) := (blk_cell BK797.out 1).trans rfl
          have hcz34_2 : wr.cell? ⟨gb797, 2, none⟩ = some (.slice A0_2 l0_2.length c0_2) := (blk_cell BK797.out 2).trans rfl
          have hcz34_3 : wr.cell? ⟨gb797, 3, none⟩ = some (.slice A0_3 l0_3.length c0_3) := (blk_cell BK797.out 3).trans rfl
          have hfz34_0 := blk_frozen BK797.out 0
          have hfz34_1 := blk_frozen BK797.out 1
          have hfz34_2 := blk_frozen BK797.out 2
          have hfz34_3 := blk_frozen BK797.out 3
          go_wp2_with (first | ((with_reducible refine gate_callee (f := 80) rfl ?_); refine goesL_ (some 35) rfl rfl Try.func80 (by kernel_rfl) rfl #[.int .i64 a0_0, .int .i64 0, .int .i64 100000] rfl (by (try simp only [List.map_toArray, List.map_cons, List.map_nil]); first | done | rfl | (simp only [List.length_drop, List.length_take]; rfl)) ?_; (with_reducible refine (impl_within.calls a0_0 0 100000 false _ A17.out).mono ?_); rintro e w' ⟨rfl, ⟨nd, rfl⟩⟩; refine ⟨_, rfl, ?_⟩))
          go_ret
          exact ⟨by first | rfl | (simp [errW_none, errW_some] <;> rfl) | (simp [*, errW_none, errW_some] <;> rfl), by repeat (first | (with_reducible first | exact HB.out | apply below_alloc | apply pw_below_drewN | apply below_drew1 | refine below_set ?_ GE797.out) | exact HB.out)⟩
/-! ### laws_FnExactGroupOk: function 3 -/
mutual
def laws_FnExactGroupOk.j0 : Nat → Int → Int → List Int → List Int → List Int → Option (Bool)
 | 0, _, _, _, _, _ => none
 | k + 1, x1, x805000, x805001, x805002, x805003 => (laws_toGroup.f k x805000 x805001 x805002 x805003).bind fun bt806 => ((spec_GroupOk.f k bt806.1 bt806.2.1 bt806.2.2.1 bt806.2.2.2 x1).bind fun t816 => ((laws_toGroup.f k x805000 x805001 x805002 x805003).bind fun bt817 => ((impl_GroupOk.f k bt817.1 bt817.2.1 bt817.2.2.1 bt817.2.2.2 x1).bind fun t828 => (if (t828 != t816) = true then (some false) else (laws_FnExactGroupOk.j1 k x805000 x805001 x805002 x805003 bt817.1 bt817.2.1 bt817.2.2.1 bt817.2.2.2)))))
def laws_FnExactGroupOk.j1 : Nat → Int → List Int → List Int → List Int → Int → List Int → List Int → List Int → Option (Bool)
 | 0, _, _, _, _, _, _, _, _ => none
 | k + 1, x805000, x805001, x805002, x805003, x828000, x828001, x828002, x828003 => (laws_toGroup.f k x805000 x805001 x805002 x805003).bind fun bt829 => ((laws_eqGroup.f k x828000 x828001 x828002 x828003 bt829.1 bt829.2.1 bt829.2.2.1 bt829.2.2.2).bind fun t839 => (if t839 = true then (some true) else (some false)))
end
def laws_FnExactGroupOk.f (k : Nat) (a0_0 : Int) (l0_1 : List Int) (l0_2 : List Int) (l0_3 : List Int) (a1 : Int) : Option (Bool) := (laws_szGroup.f a0_0 l0_1 l0_2 l0_3 1048576).bind fun t805 => (if t805 < 0 then (some true) else (laws_FnExactGroupOk.j0 k a1 a0_0 l0_1 l0_2 l0_3))
theorem laws_FnExactGroupOk.mono_l : ∀ k, (∀ y0 y1 y2 y3 y4, LeO (laws_FnExactGroupOk.j0 k y0 y1 y2 y3 y4) (laws_FnExactGroupOk.j0 (k + 1) y0 y1 y2 y3 y4)) ∧ (∀ y0 y1 y2 y3 y4 y5 y6 y7, LeO (laws_FnExactGroupOk.j1 k y0 y1 y2 y3 y4 y5 y6 y7) (laws_FnExactGroupOk.j1 (k + 1) y0 y1 y2 y3 y4 y5 y6 y7))
 | 0 => ⟨fun _ _ _ _ _ r h => by simp [laws_FnExactGroupOk.j0] at h, fun _ _ _ _ _ _ _ _ r h => by simp [laws_FnExactGroupOk.j1] at h⟩
 | k + 1 => by
  obtain ⟨ih0, ih1⟩ := laws_FnExactGroupOk.mono_l k
  refine ⟨?_, ?_⟩
  ·
   intro y0 y1 y2 y3 y4
   unfold laws_FnExactGroupOk.j0
   repeat' first
   | (with_reducible exact ih0 _ _ _ _ _)
   | (with_reducible exact ih1 _ _ _ _ _ _ _ _)
   | (with_reducible exact impl_GroupOk.mono _ _ _ _ _ _)
   | (with_reducible exact laws_eqGroup.mono _ _ _ _ _ _ _ _ _)
   | (with_reducible exact laws_toGroup.mono _ _ _ _ _)
   | (with_reducible exact spec_GroupOk.mono _ _ _ _ _ _)
   | (with_reducible exact LeO.refl _)
   | (with_reducible exact LeO.none _)
   | (with_reducible refine LeO.ite ?_ ?_)
   | (with_reducible refine LeO.bind ?_ (fun _ => ?_))
   | exact ih0 _ _ _ _ _
   | exact ih1 _ _ _ _ _ _ _ _
   | exact impl_GroupOk.mono _ _ _ _ _ _
   | exact laws_eqGroup.mono _ _ _ _ _ _ _ _ _
   | exact laws_toGroup.mono _ _ _ _ _
   | exact spec_GroupOk.mono _ _ _ _ _ _
   | exact LeO.none _
   | refine LeO.ite ?_ ?_
   | refine LeO.bind ?_ (fun _ => ?_)
  ·
   intro y0 y1 y2 y3 y4 y5 y6 y7
   unfold laws_FnExactGroupOk.j1
   repeat' first
   | (with_reducible exact ih0 _ _ _ _ _)
   | (with_reducible exact ih1 _ _ _ _ _ _ _ _)
   | (with_reducible exact impl_GroupOk.mono _ _ _ _ _ _)
   | (with_reducible exact laws_eqGroup.mono _ _ _ _ _ _ _ _ _)
   | (with_reducible exact laws_toGroup.mono _ _ _ _ _)
   | (with_reducible exact spec_GroupOk.mono _ _ _ _ _ _)
   | (with_reducible exact LeO.refl _)
   | (with_reducible exact LeO.none _)
   | (with_reducible refine LeO.ite ?_ ?_)
   | (with_reducible refine LeO.bind ?_ (fun _ => ?_))
   | exact ih0 _ _ _ _ _
   | exact ih1 _ _ _ _ _ _ _ _
   | exact impl_GroupOk.mono _ _ _ _ _ _
   | exact laws_eqGroup.mono _ _ _ _ _ _ _ _ _
   | exact laws_toGroup.mono _ _ _ _ _
   | exact spec_GroupOk.mono _ _ _ _ _ _
   | exact LeO.none _
   | refine LeO.ite ?_ ?_
   | refine LeO.bind ?_ (fun _ => ?_)
theorem laws_FnExactGroupOk.mono : ∀ a0 a1 a2 a3 a4 k, LeO (laws_FnExactGroupOk.f k a0 a1 a2 a3 a4) (laws_FnExactGroupOk.f (k + 1) a0 a1 a2 a3 a4) := by
 intro a0 a1 a2 a3 a4 k
 obtain ⟨ih0, ih1⟩ := laws_FnExactGroupOk.mono_l k
 unfold laws_FnExactGroupOk.f
 repeat' first
  | (with_reducible exact ih0 _ _ _ _ _)
  | (with_reducible exact ih1 _ _ _ _ _ _ _ _)
  | (with_reducible exact impl_GroupOk.mono _ _ _ _ _ _)
  | (with_reducible exact laws_eqGroup.mono _ _ _ _ _ _ _ _ _)
  | (with_reducible exact laws_toGroup.mono _ _ _ _ _)
  | (with_reducible exact spec_GroupOk.mono _ _ _ _ _ _)
  | (with_reducible exact LeO.refl _)
  | (with_reducible exact LeO.none _)
  | (with_reducible refine LeO.ite ?_ ?_)
  | (with_reducible refine LeO.bind ?_ (fun _ => ?_))
  | exact ih0 _ _ _ _ _
  | exact ih1 _ _ _ _ _ _ _ _
  | exact impl_GroupOk.mono _ _ _ _ _ _
  | exact laws_eqGroup.mono _ _ _ _ _ _ _ _ _
  | exact laws_toGroup.mono _ _ _ _ _
  | exact spec_GroupOk.mono _ _ _ _ _ _
  | exact LeO.none _
  | refine LeO.ite ?_ ?_
  | refine LeO.bind ?_ (fun _ => ?_)
set_option maxHeartbeats 8000000 in
set_option maxRecDepth 100000 in
theorem laws_FnExactGroupOk.calls (k : Nat) (a0_0 : Int) (A0_1 : Option Addr) (c0_1 : Nat) (l0_1 : List Int) (A0_2 : Option Addr) (c0_2 : Nat) (l0_2 : List Int) (A0_3 : Option Addr) (c0_3 : Nat) (l0_3 : List Int) (a1 : Int) (r : Bool) (w : World) (hr0_1 : Kd.C (Kd.int .i64) w A0_1 l0_1.length l0_1) (hc0_1 : l0_1.length ≤ c0_1) (hr0_2 : Kd.C (Kd.int .i64) w A0_2 l0_2.length l0_2) (hc0_2 : l0_2.length ≤ c0_2) (hr0_3 : Kd.C (Kd.int .i64) w A0_3 l0_3.length l0_3) (hc0_3 : l0_3.length ≤ c0_3) (h : laws_FnExactGroupOk.f k a0_0 l0_1 l0_2 l0_3 a1 = some r) :
 Calls Try.prog 3 #[.agg #[.int .i64 a0_0, .slice A0_1 l0_1.length c0_1, .slice A0_2 l0_2.length c0_2, .slice A0_3 l0_3.length c0_3], .int .i64 a1] w fun e w' => e = .returned (.bool r) ∧ Below w.heap.size w w' := by
 have hu24 := Try.underlying24
 have hu27 := Try.underlying27
 have HR0_1 := Aside0.mk hr0_1
 have HC0_1 := Aside0.mk hc0_1
 clear hr0_1 hc0_1
 have HR0_2 := Aside0.mk hr0_2
 have HC0_2 := Aside0.mk hc0_2
 clear hr0_2 hc0_2
 have HR0_3 := Aside0.mk hr0_3
 have HC0_3 := Aside0.mk hc0_3
 clear hr0_3 hc0_3
 have HB := Aside0.mk (Below.refl w.heap.size w)
 have H : ((laws_szGroup.f a0_0 l0_1 l0_2 l0_3 1048576).bind fun t805 => (if t805 < 0 then (some true) else (laws_FnExactGroupOk.j0 k a1 a0_0 l0_1 l0_2 l0_3))) = some r := h
 clear h
 replace H := Option.bind_eq_some_iff.mp H
 obtain ⟨t805, A30, H⟩ := H
 replace H : (if t805 < 0 then (some true) else (laws_FnExactGroupOk.j0 k a1 a0_0 l0_1 l0_2 l0_3)) = some r := H
 have A3 := Aside0.mk A30
 clear A30
 have HC4 := Aside0.mk H
 clear H
 go_enter Try.func3, Try.ntmps3
 go_upto_if 13 with (first | ((with_reducible refine gate_dst (N := 2) rfl ?_); refine box_event ?hg (N := 2) ?hd (cs := #[.int .i64 a0_0, .slice A0_1 l0_1.length c0_1, .slice A0_2 l0_2.length c0_2, .slice A0_3 l0_3.length c0_3]) (t := 24) ?hr ?_; (case hd => rfl); (case hg => rfl); (case hr => first | (go_simp; done) | (go_simp; rfl)); intro gb804 hg w5 hbox hb; have n0_ := Aside0.mk (below_step (hb_ HB.out) hb); have n1_ := Aside0.mk (hbox); have n2_ := Aside0.mk ((by rw [hg]; exact (below_size (hb_ HB.out)) : w.heap.size ≤ gb804)); have n3_ := Aside0.mk ((by rw [hg]; exact (below_size (hb_ HB.out)) : w.heap.size ≤ gb804)); clear HB; have HB := n0_; have BK804 := n1_; have GW804 := n2_; have GE804 := n3_; clear n0_ n1_ n2_ n3_; clear hb hbox hg; have hcz6_0 : w5.cell? ⟨gb804, 0, none⟩ = some (.int .i64 a0_0) := (blk_cell BK804.out 0).trans rfl; have hcz6_1 : w5.cell? ⟨gb804, 1, none⟩ = some (.slice A0_1 l0_1.length c0_1) := (blk_cell BK804.out 1).trans rfl; have hcz6_2 : w5.cell? ⟨gb804, 2, none⟩ = some (.slice A0_2 l0_2.length c0_2) := (blk_cell BK804.out 2).trans rfl; have hcz6_3 : w5.cell? ⟨gb804, 3, none⟩ = some (.slice A0_3 l0_3.length c0_3) := (blk_cell BK804.out 3).trans rfl; have hfz6_0 := blk_frozen BK804.out 0; have hfz6_1 := blk_frozen BK804.out 1; have hfz6_2 := blk_frozen BK804.out 2; have hfz6_3 := blk_frozen BK804.out 3) | ((with_reducible refine gate_callee (f := 15) rfl ?_); refine goesL_ (some 11) rfl rfl Try.func15 (by kernel_rfl) rfl #[.agg #[.int .i64 a0_0, .slice A0_1 l0_1.length c0_1, .slice A0_2 l0_2.length c0_2, .slice A0_3 l0_3.length c0_3], .int .i64 1048576] rfl sm_ ?_; (with_reducible refine (laws_szGroup.calls a0_0 _ _ l0_1 _ _ l0_2 _ _ l0_3 1048576 t805 _ ?side1 ?side2 ?side3 ?side4 ?side5 ?side6 A3.out).mono ?_); (case side1 => repeat (first | exact (Kd.C_below HR0_1.out HB.out) | (with_reducible refine Kd.C_alloc ?_ _) | (with_reducible refine Kd.C_drewN ?_ _) | (with_reducible refine Kd.C_drew ?_))); (case side2 => exact HC0_1.out); (case side3 => repeat (first | exact (Kd.C_below HR0_2.out HB.out) | (with_reducible refine Kd.C_alloc ?_ _) | (with_reducible refine Kd.C_drewN ?_ _) | (with_reducible refine Kd.C_drew ?_))); (case side4 => exact HC0_2.out); (case side5 => repeat (first | exact (Kd.C_below HR0_3.out HB.out) | (with_reducible refine Kd.C_alloc ?_ _) | (with_reducible refine Kd.C_drewN ?_ _) | (with_reducible refine Kd.C_drew ?_))); (case side6 => exact HC0_3.out); rintro e w7 ⟨rfl, hb⟩; refine ⟨_, rfl, ?_⟩; have n0_ := Aside0.mk (bb_ BK804.out hb); have n1_ := Aside0.mk (below_step (hb_ HB.out) hb); clear BK804; clear HB; have BK804 := n0_; have HB := n1_; clear n0_ n1_; (try clear hb); (try clear hb2); (try clear hk); (try clear hi)))
 (try simp only [Act.put, List.setIfInBounds_toArray, List.set_cons_zero, List.set_cons_succ])
 go_cut [] (fun wc => ∃ (kq : Nat), Aside0 (laws_FnExactGroupOk.j0 kq a1 a0_0 l0_1 l0_2 l0_3 = some r) ∧ Aside0 (kq ≤ k) ∧ Aside0 (wc.heap[gb804]? = some (.cells #[.int .i64 a0_0, (.slice A0_1 l0_1.length c0_1), (.slice A0_2 l0_2.length c0_2), (.slice A0_3 l0_3.length c0_3)] 24 (0, 0))) ∧ Aside0 (Below w.heap.size w wc))
 case first =>
  have H := HC4.out
  clear HC4
  by_cases c8 : t805 < 0
  ·
   rw [if_pos c8] at H
   have c8b0 : decide (t805 < 0) = true := decide_eq_true c8
   clear c8
   (first | rw [c8b0] | (simp only [i64_w, i32_w]; rw [c8b0]) | rw [c8b4] | rw [c8b3] | skip)
   obtain rfl := Option.some.inj H
   go_wp2
   go_ret
   exact ⟨er_, hb_ HB.out⟩
  ·
   rw [if_neg c8] at H
   have c8b0 : decide (t805 < 0) = false := decide_eq_false c8
   clear c8
   (first | rw [c8b0] | (simp only [i64_w, i32_w]; rw [c8b0]) | rw [c8b4] | rw [c8b3] | skip)
   have H' := Aside0.mk H
   clear H
   go_wp2
   go_meet
   case rel => exact ⟨_, H', ⟨by first | omega | exact Nat.le_refl _⟩, ⟨bq_ BK804.out⟩, ⟨hb_ HB.out⟩⟩
 case rest =>
  clear HC4
  (try clear c1); (try clear p2); (try clear c3); (try clear c8); (try clear c8b0); (try clear hcz6_0); (try clear hcz6_1); (try clear hcz6_2); (try clear hcz6_3); (try clear hfz6_0); (try clear hfz6_1); (try clear hfz6_2); (try clear hfz6_3)
  obtain ⟨kq, HA, HJ3, BK804, HB⟩ := hcut
  cases kq with
  | zero => exact absurd HA.out (by simp [laws_FnExactGroupOk.j0])
  | succ kj3 =>
   have H := HA.out
   clear HA
   simp only [laws_FnExactGroupOk.j0] at H
   replace H := Option.bind_eq_some_iff.mp H
   obtain ⟨⟨t806, t807, t810, t813⟩, A90, H⟩ := H
   replace H : ((spec_GroupOk.f kj3 t806 t807 t810 t813 a1).bind fun t816 => ((laws_toGroup.f kj3 a0_0 l0_1 l0_2 l0_3).bind fun bt817 => ((impl_GroupOk.f kj3 bt817.1 bt817.2.1 bt817.2.2.1 bt817.2.2.2 a1).bind fun t828 => (if (t828 != t816) = true then (some false) else (laws_FnExactGroupOk.j1 kj3 a0_0 l0_1 l0_2 l0_3 bt817.1 bt817.2.1 bt817.2.2.1 bt817.2.2.2))))) = some r := H
   have A9 := Aside0.mk A90
   clear A90
   replace H := Option.bind_eq_some_iff.mp H
   obtain ⟨t816, A100, H⟩ := H
   replace H : ((laws_toGroup.f kj3 a0_0 l0_1 l0_2 l0_3).bind fun bt817 => ((impl_GroupOk.f kj3 bt817.1 bt817.2.1 bt817.2.2.1 bt817.2.2.2 a1).bind fun t828 => (if (t828 != t816) = true then (some false) else (laws_FnExactGroupOk.j1 kj3 a0_0 l0_1 l0_2 l0_3 bt817.1 bt817.2.1 bt817.2.2.1 bt817.2.2.2)))) = some r := H
   have A10 := Aside0.mk A100
   clear A100
   replace H := Option.bind_eq_some_iff.mp H
   obtain ⟨⟨t817, t818, t821, t824⟩, A110, H⟩ := H
   replace H : ((impl_GroupOk.f kj3 t817 t818 t821 t824 a1).bind fun t828 => (if (t828 != t816) = true then (some false) else (laws_FnExactGroupOk.j1 kj3 a0_0 l0_1 l0_2 l0_3 t817 t818 t821 t824))) = some r := H
   have A11 := Aside0.mk A110
   clear A110
   replace H := Option.bind_eq_some_iff.mp H
   obtain ⟨t828, A120, H⟩ := H
   replace H : (if (t828 != t816) = true then (some false) else (laws_FnExactGroupOk.j1 kj3 a0_0 l0_1 l0_2 l0_3 t817 t818 t821 t824)) = some r := H
   have A12 := Aside0.mk A120
   clear A120
   have HC13 := Aside0.mk H
   clear H
   have hcz14_0 : wc.cell? ⟨gb804, 0, none⟩ = some (.int .i64 a0_0) := (blk_cell BK804.out 0).trans rfl
   have hcz14_1 : wc.cell? ⟨gb804, 1, none⟩ = some (.slice A0_1 l0_1.length c0_1) := (blk_cell BK804.out 1).trans rfl
   have hcz14_2 : wc.cell? ⟨gb804, 2, none⟩ = some (.slice A0_2 l0_2.length c0_2) := (blk_cell BK804.out 2).trans rfl
   have hcz14_3 : wc.cell? ⟨gb804, 3, none⟩ = some (.slice A0_3 l0_3.length c0_3) := (blk_cell BK804.out 3).trans rfl
   have hfz14_0 := blk_frozen BK804.out 0
   have hfz14_1 := blk_frozen BK804.out 1
   have hfz14_2 := blk_frozen BK804.out 2
   have hfz14_3 := blk_frozen BK804.out 3
   go_upto_if 25 with (first | ((with_reducible refine gate_callee (f := 17) rfl ?_); refine goesL_ (some 15) rfl rfl Try.func17 (by kernel_rfl) rfl #[.agg #[.int .i64 a0_0, .slice A0_1 l0_1.length c0_1, .slice A0_2 l0_2.length c0_2, .slice A0_3 l0_3.length c0_3]] rfl sm_ ?_; (with_reducible refine (laws_toGroup.calls kj3 a0_0 _ _ l0_1 _ _ l0_2 _ _ l0_3 t806 t807 t810 t813 _ ?side1 ?side2 ?side3 ?side4 ?side5 ?side6 A9.out).mono ?_); (case side1 => repeat (first | exact (Kd.C_below HR0_1.out HB.out) | (with_reducible refine Kd.C_alloc ?_ _) | (with_reducible refine Kd.C_drewN ?_ _) | (with_reducible refine Kd.C_drew ?_))); (case side2 => exact HC0_1.out); (case side3 => repeat (first | exact (Kd.C_below HR0_2.out HB.out) | (with_reducible refine Kd.C_alloc ?_ _) | (with_reducible refine Kd.C_drewN ?_ _) | (with_reducible refine Kd.C_drew ?_))); (case side4 => exact HC0_2.out); (case side5 => repeat (first | exact (Kd.C_below HR0_3.out HB.out) | (with_reducible refine Kd.C_alloc ?_ _) | (with_reducible refine Kd.C_drewN ?_ _) | (with_reducible refine Kd.C_drew ?_))); (case side6 => exact HC0_3.out); rintro e w15 ⟨v808, v811, v814, rfl, ho0, ho1, ho2, hb⟩; refine ⟨_, rfl, ?_⟩; have n0_ := Aside0.mk (Kd.R_lower ho0 (below_size (hb_ HB.out))); have n1_ := Aside0.mk (Kd.R_lower ho1 (below_size (hb_ HB.out))); have n2_ := Aside0.mk (Kd.R_lower ho2 (below_size (hb_ HB.out))); have n3_ := Aside0.mk (bb_ BK804.out hb); have n4_ := Aside0.mk (below_step (hb_ HB.out) hb); clear BK804; clear HB; have HO809 := n0_; have HO812 := n1_; have HO815 := n2_; have BK804 := n3_; have HB := n4_; clear n0_ n1_ n2_ n3_ n4_; (try clear hb); (try clear hb2); (try clear hk); (try clear hi); (try clear ho0); (try clear ho1); (try clear ho2); obtain ⟨Ao16, co16, eo16⟩ := Kd.R_slice HO809.out; subst eo16; obtain ⟨Ao17, co17, eo17⟩ := Kd.R_slice HO812.out; subst eo17; obtain ⟨Ao18, co18, eo18⟩ := Kd.R_slice HO815.out; subst eo18) | ((with_reducible refine gate_callee (f := 16) rfl ?_); refine goesL_ (some 17) rfl rfl Try.func16 (by kernel_rfl) rfl #[.agg #[.int .i64 t806, .slice Ao16 t807.length co16, .slice Ao17 t810.length co17, .slice Ao18 t813.length co18], .int .i64 a1] rfl sm_ ?_; (with_reducible refine (spec_GroupOk.calls kj3 t806 _ _ t807 _ _ t810 _ _ t813 a1 t816 _ ?side1 ?side2 ?side3 ?side4 ?side5 ?side6 A10.out).mono ?_); (case side1 => repeat (first | exact (Kd.R_reads' HO809.out).2.2 | (with_reducible refine Kd.C_alloc ?_ _) | (with_reducible refine Kd.C_drewN ?_ _) | (with_reducible refine Kd.C_drew ?_))); (case side2 => exact (Kd.R_reads' HO809.out).2.1); (case side3 => repeat (first | exact (Kd.R_reads' HO812.out).2.2 | (with_reducible refine Kd.C_alloc ?_ _) | (with_reducible refine Kd.C_drewN ?_ _) | (with_reducible refine Kd.C_drew ?_))); (case side4 => exact (Kd.R_reads' HO812.out).2.1); (case side5 => repeat (first | exact (Kd.R_reads' HO815.out).2.2 | (with_reducible refine Kd.C_alloc ?_ _) | (with_reducible refine Kd.C_drewN ?_ _) | (with_reducible refine Kd.C_drew ?_))); (case side6 => exact (Kd.R_reads' HO815.out).2.1); rintro e w19 ⟨rfl, hb⟩; refine ⟨_, rfl, ?_⟩; have n0_ := Aside0.mk (Kd.R_below (rq_ HO809.out) hb); have n1_ := Aside0.mk (Kd.R_below (rq_ HO812.out) hb); have n2_ := Aside0.mk (Kd.R_below (rq_ HO815.out) hb); have n3_ := Aside0.mk (bb_ BK804.out hb); have n4_ := Aside0.mk (below_step (hb_ HB.out) hb); clear HO809; clear HO812; clear HO815; clear BK804; clear HB; have HO809 := n0_; have HO812 := n1_; have HO815 := n2_; have BK804 := n3_; have HB := n4_; clear n0_ n1_ n2_ n3_ n4_; (try clear hb); (try clear hb2); (try clear hk); (try clear hi); have hcz20_0 : w19.cell? ⟨gb804, 0, none⟩ = some (.int .i64 a0_0) := (blk_cell BK804.out 0).trans rfl; have hcz20_1 : w19.cell? ⟨gb804, 1, none⟩ = some (.slice A0_1 l0_1.length c0_1) := (blk_cell BK804.out 1).trans rfl; have hcz20_2 : w19.cell? ⟨gb804, 2, none⟩ = some (.slice A0_2 l0_2.length c0_2) := (blk_cell BK804.out 2).trans rfl; have hcz20_3 : w19.cell? ⟨gb804, 3, none⟩ = some (.slice A0_3 l0_3.length c0_3) := (blk_cell BK804.out 3).trans rfl; have hfz20_0 := blk_frozen BK804.out 0; have hfz20_1 := blk_frozen BK804.out 1; have hfz20_2 := blk_frozen BK804.out 2; have hfz20_3 := blk_frozen BK804.out 3) | ((with_reducible refine gate_callee (f := 17) rfl ?_); refine goesL_ (some 19) rfl rfl Try.func17 (by kernel_rfl) rfl #[.agg #[.int .i64 a0_0, .slice A0_1 l0_1.length c0_1, .slice A0_2 l0_2.length c0_2, .slice A0_3 l0_3.length c0_3]] rfl sm_ ?_; (with_reducible refine (laws_toGroup.calls kj3 a0_0 _ _ l0_1 _ _ l0_2 _ _ l0_3 t817 t818 t821 t824 _ ?side1 ?side2 ?side3 ?side4 ?side5 ?side6 A11.out).mono ?_); (case side1 => repeat (first | exact (Kd.C_below HR0_1.out HB.out) | (with_reducible refine Kd.C_alloc ?_ _) | (with_reducible refine Kd.C_drewN ?_ _) | (with_reducible refine Kd.C_drew ?_))); (case side2 => exact HC0_1.out); (case side3 => repeat (first | exact (Kd.C_below HR0_2.out HB.out) | (with_reducible refine Kd.C_alloc ?_ _) | (with_reducible refine Kd.C_drewN ?_ _) | (with_reducible refine Kd.C_drew ?_))); (case side4 => exact HC0_2.out); (case side5 => repeat (first | exact (Kd.C_below HR0_3.out HB.out) | (with_reducible refine Kd.C_alloc ?_ _) | (with_reducible refine Kd.C_drewN ?_ _) | (with_reducible refine Kd.C_drew ?_))); (case side6 => exact HC0_3.out); rintro e w21 ⟨v819, v822, v825, rfl, ho0, ho1, ho2, hb⟩; refine ⟨_, rfl, ?_⟩; have n0_ := Aside0.mk (Kd.R_mono (Kd.R_told (Kd.R_told (Kd.R_told (Kd.R_old (rq_ HO809.out) hb) (Kd.R_base ho0)) (Kd.R_base ho1)) (Kd.R_base ho2)) (fun _ h_ => h_.1)); have n1_ := Aside0.mk (Kd.R_mono (Kd.R_told (Kd.R_told (Kd.R_told (Kd.R_old (rq_ HO812.out) hb) (Kd.R_base ho0)) (Kd.R_base ho1)) (Kd.R_base ho2)) (fun _ h_ => h_.1)); have n2_ := Aside0.mk (Kd.R_mono (Kd.R_told (Kd.R_told (Kd.R_told (Kd.R_old (rq_ HO815.out) hb) (Kd.R_base ho0)) (Kd.R_base ho1)) (Kd.R_base ho2)) (fun _ h_ => h_.1)); have n3_ := Aside0.mk (Kd.R_lower (Kd.R_new' (Kd.R_new' (Kd.R_new' ho0 (Kd.R_lt (rq_ HO809.out))) (Kd.R_lt (rq_ HO812.out))) (Kd.R_lt (rq_ HO815.out))) (below_size (hb_ HB.out))); have n4_ := Aside0.mk (Kd.R_lower (Kd.R_new' (Kd.R_new' (Kd.R_new' ho1 (Kd.R_lt (rq_ HO809.out))) (Kd.R_lt (rq_ HO812.out))) (Kd.R_lt (rq_ HO815.out))) (below_size (hb_ HB.out))); have n5_ := Aside0.mk (Kd.R_lower (Kd.R_new' (Kd.R_new' (Kd.R_new' ho2 (Kd.R_lt (rq_ HO809.out))) (Kd.R_lt (rq_ HO812.out))) (Kd.R_lt (rq_ HO815.out))) (below_size (hb_ HB.out))); have n6_ := Aside0.mk (bb_ BK804.out hb); have n7_ := Aside0.mk (below_step (hb_ HB.out) hb); clear HO809; clear HO812; clear HO815; clear BK804; clear HB; have HO809 := n0_; have HO812 := n1_; have HO815 := n2_; have HO820 := n3_; have HO823 := n4_; have HO826 := n5_; have BK804 := n6_; have HB := n7_; clear n0_ n1_ n2_ n3_ n4_ n5_ n6_ n7_; (try clear hb); (try clear hb2); (try clear hk); (try clear hi); (try clear ho0); (try clear ho1); (try clear ho2)) | ((with_reducible refine gate_dst (N := 7) rfl ?_); refine box_event ?hg (N := 7) ?hd (cs := #[.int .i64 0, .slice none 0 0, .slice none 0 0, .slice none 0 0]) (t := 27) ?hr ?_; (case hd => rfl); (case hg => rfl); (case hr => first | (go_simp; done) | (go_simp; rfl)); intro gb827 hg w22 hbox hb; have n0_ := Aside0.mk (Kd.R_below (rq_ HO809.out) hb); have n1_ := Aside0.mk (Kd.R_below (rq_ HO812.out) hb); have n2_ := Aside0.mk (Kd.R_below (rq_ HO815.out) hb); have n3_ := Aside0.mk (Kd.R_below (rq_ HO820.out) hb); have n4_ := Aside0.mk (Kd.R_below (rq_ HO823.out) hb); have n5_ := Aside0.mk (Kd.R_below (rq_ HO826.out) hb); have n6_ := Aside0.mk (bb_ BK804.out hb); have n7_ := Aside0.mk (below_step (hb_ HB.out) hb); have n8_ := Aside0.mk (hbox); have n9_ := Aside0.mk ((by rw [hg]; exact (below_size (hb_ HB.out)) : w.heap.size ≤ gb827)); have n10_ := Aside0.mk ((by rw [hg]; exact (below_size (hb_ HB.out)) : w.heap.size ≤ gb827)); have n11_ := Aside0.mk ((nl_ BK804.out hg : gb804 ≠ gb827)); have n12_ := Aside0.mk ((ng_ BK804.out hg : gb827 ≠ gb804)); clear HO809; clear HO812; clear HO815; clear HO820; clear HO823; clear HO826; clear BK804; clear HB; have HO809 := n0_; have HO812 := n1_; have HO815 := n2_; have HO820 := n3_; have HO823 := n4_; have HO826 := n5_; have BK804 := n6_; have HB := n7_; have BK827 := n8_; have GW827 := n9_; have GE827 := n10_; have NB804_827 := n11_; have NB827_804 := n12_; clear n0_ n1_ n2_ n3_ n4_ n5_ n6_ n7_ n8_ n9_ n10_ n11_ n12_; clear hb hbox hg; have hnb23 := NB827_804.out; have hnc23 := NB804_827.out; have hcz24_0 : w22.cell? ⟨gb827, 0, none⟩ = some (.int .i64 0) := (blk_cell BK827.out 0).trans rfl; have hcz24_1 : w22.cell? ⟨gb827, 1, none⟩ = some (.slice none 0 0) := (blk_cell BK827.out 1).trans rfl; have hcz24_2 : w22.cell? ⟨gb827, 2, none⟩ = some (.slice none 0 0) := (blk_cell BK827.out 2).trans rfl; have hcz24_3 : w22.cell? ⟨gb827, 3, none⟩ = some (.slice none 0 0) := (blk_cell BK827.out 3).trans rfl; have hfz24_0 := blk_frozen BK827.out 0; have hfz24_1 := blk_frozen BK827.out 1; have hfz24_2 := blk_frozen BK827.out 2; have hfz24_3 := blk_frozen BK827.out 3; obtain ⟨Ao25, co25, eo25⟩ := Kd.R_slice HO820.out; subst eo25; obtain ⟨Ao26, co26, eo26⟩ := Kd.R_slice HO823.out; subst eo26; obtain ⟨Ao27, co27, eo27⟩ := Kd.R_slice HO826.out; subst eo27) | ((with_reducible refine gate_callee (f := 18) rfl ?_); refine goesL_ (some 22) rfl rfl Try.func18 (by kernel_rfl) rfl #[.agg #[.int .i64 t817, .slice Ao25 t818.length co25, .slice Ao26 t821.length co26, .slice Ao27 t824.length co27], .int .i64 a1] rfl sm_ ?_; (with_reducible refine (impl_GroupOk.calls kj3 t817 _ _ t818 _ _ t821 _ _ t824 a1 t828 _ ?side1 ?side2 ?side3 ?side4 ?side5 ?side6 A12.out).mono ?_); (case side1 => refine (Kd.R_reads' (e := 3) (base := w.heap.size) (ok := fun k_ => ((((some k_ ≠ (.slice Ao26 t821.length co26 : Value).ownBlock ∧ some k_ ≠ (.slice Ao27 t824.length co27 : Value).ownBlock) ∧ some k_ ≠ (.slice Ao16 t807.length co16 : Value).ownBlock) ∧ some k_ ≠ (.slice Ao17 t810.length co17 : Value).ownBlock) ∧ some k_ ≠ (.slice Ao18 t813.length co18 : Value).ownBlock)) (n := t818.length) (c := co25) ?_).2.2; exact (rk_ HO820.out BK827.out)); (case side2 => exact (Kd.R_reads' HO820.out).2.1); (case side3 => refine (Kd.R_reads' (e := 3) (base := w.heap.size) (ok := fun k_ => ((((some k_ ≠ (.slice Ao25 t818.length co25 : Value).ownBlock ∧ some k_ ≠ (.slice Ao27 t824.length co27 : Value).ownBlock) ∧ some k_ ≠ (.slice Ao16 t807.length co16 : Value).ownBlock) ∧ some k_ ≠ (.slice Ao17 t810.length co17 : Value).ownBlock) ∧ some k_ ≠ (.slice Ao18 t813.length co18 : Value).ownBlock)) (n := t821.length) (c := co26) ?_).2.2; exact (rk_ HO823.out BK827.out)); (case side4 => exact (Kd.R_reads' HO823.out).2.1); (case side5 => refine (Kd.R_reads' (e := 3) (base := w.heap.size) (ok := fun k_ => ((((some k_ ≠ (.slice Ao25 t818.length co25 : Value).ownBlock ∧ some k_ ≠ (.slice Ao26 t821.length co26 : Value).ownBlock) ∧ some k_ ≠ (.slice Ao16 t807.length co16 : Value).ownBlock) ∧ some k_ ≠ (.slice Ao17 t810.length co17 : Value).ownBlock) ∧ some k_ ≠ (.slice Ao18 t813.length co18 : Value).ownBlock)) (n := t824.length) (c := co27) ?_).2.2; exact (rk_ HO826.out BK827.out)); (case side6 => exact (Kd.R_reads' HO826.out).2.1); rintro e w28 ⟨rfl, hb⟩; refine ⟨_, rfl, ?_⟩; have n0_ := Aside0.mk (Kd.R_below (rk_ HO809.out BK827.out) hb); have n1_ := Aside0.mk (Kd.R_below (rk_ HO812.out BK827.out) hb); have n2_ := Aside0.mk (Kd.R_below (rk_ HO815.out BK827.out) hb); have n3_ := Aside0.mk (Kd.R_below (rk_ HO820.out BK827.out) hb); have n4_ := Aside0.mk (Kd.R_below (rk_ HO823.out BK827.out) hb); have n5_ := Aside0.mk (Kd.R_below (rk_ HO826.out BK827.out) hb); have n6_ := Aside0.mk (blk_below (g := gb804) (o := .cells #[.int .i64 a0_0, .slice A0_1 l0_1.length c0_1, .slice A0_2 l0_2.length c0_2, .slice A0_3 l0_3.length c0_3] 24 (0, 0)) (bf_ NB804_827.out BK804.out) hb); have n7_ := Aside0.mk (blk_below (g := gb827) (o := .cells #[.int .i64 t817, .slice Ao25 t818.length co25, .slice Ao26 t821.length co26, .slice Ao27 t824.length co27] 27 (0, 0)) (bp_ BK827.out) hb); have n8_ := Aside0.mk (below_step (hb_ HB.out) hb); clear HO809; clear HO812; clear HO815; clear HO820; clear HO823; clear HO826; clear BK804; clear BK827; clear HB; have HO809 := n0_; have HO812 := n1_; have HO815 := n2_; have HO820 := n3_; have HO823 := n4_; have HO826 := n5_; have BK804 := n6_; have BK827 := n7_; have HB := n8_; clear n0_ n1_ n2_ n3_ n4_ n5_ n6_ n7_ n8_; (try clear hb); (try clear hb2); (try clear hk); (try clear hi)))
   (try simp only [Act.put, List.setIfInBounds_toArray, List.set_cons_zero, List.set_cons_succ])
   go_cut [] (fun wc => ∃ (kq : Nat), Aside0 (laws_FnExactGroupOk.j1 kq a0_0 l0_1 l0_2 l0_3 t817 t818 t821 t824 = some r) ∧ Aside0 (kq ≤ kj3) ∧ Aside0 (Kd.R (Kd.int .i64) 3 wc w.heap.size (fun k_ => some k_ ≠ ((.slice Ao26 t821.length co26) : Value).ownBlock ∧ some k_ ≠ ((.slice Ao27 t824.length co27) : Value).ownBlock) (.slice Ao25 t818.length co25) t818) ∧ Aside0 (Kd.R (Kd.int .i64) 3 wc w.heap.size (fun k_ => some k_ ≠ ((.slice Ao25 t818.length co25) : Value).ownBlock ∧ some k_ ≠ ((.slice Ao27 t824.length co27) : Value).ownBlock) (.slice Ao26 t821.length co26) t821) ∧ Aside0 (Kd.R (Kd.int .i64) 3 wc w.heap.size (fun k_ => some k_ ≠ ((.slice Ao25 t818.length co25) : Value).ownBlock ∧ some k_ ≠ ((.slice Ao26 t821.length co26) : Value).ownBlock) (.slice Ao27 t824.length co27) t824) ∧ Aside0 (wc.heap[gb804]? = some (.cells #[.int .i64 a0_0, (.slice A0_1 l0_1.length c0_1), (.slice A0_2 l0_2.length c0_2), (.slice A0_3 l0_3.length c0_3)] 24 (0, 0))) ∧ Aside0 (wc.heap[gb827]? = some (.cells #[.int .i64 t817, (.slice Ao25 t818.length co25), (.slice Ao26 t821.length co26), (.slice Ao27 t824.length co27)] 27 (0, 0))) ∧ Aside0 (Below w.heap.size w wc))
   case first =>
    have H := HC13.out
    clear HC13
    by_cases c29 : (t828 != t816) = true
    ·
     rw [if_pos c29] at H
     have c29b0 : (t828 != t816) = true := c29
     (try (have c29b1 : decide (t828 = t816) = false := by simpa using c29))
     (try (have c29b2 : (t828 == t816) = false := by simpa using c29))
     (try (have c29b3 : ¬ (t828 = t816) := by simpa using c29))
     (try (have c29b4 : (!(t828 == t816)) = true := (show ∀ a b : Bool, (a != b) = true → (!(a == b)) = true by decide) _ _ c29))
     clear c29
     (first | rw [c29b0] | (simp only [i64_w, i32_w]; rw [c29b0]) | rw [c29b4] | rw [c29b3] | skip)
     obtain rfl := Option.some.inj H
     go_wp2
     go_ret
     exact ⟨er_, hb_ HB.out⟩
    ·
     rw [if_neg c29] at H
     have c29b0 : (t828 != t816) = false := by simpa using c29
     (try (have c29b1 : decide (t828 = t816) = true := by simpa using c29))
     (try (have c29b2 : (t828 == t816) = true := by simpa using c29))
     (try (have c29b3 : (!(t828 == t816)) = false := (show ∀ a b : Bool, ¬ (a != b) = true → (!(a == b)) = false by decide) _ _ c29))
     clear c29
     (first | rw [c29b0] | (simp only [i64_w, i32_w]; rw [c29b0]) | rw [c29b4] | rw [c29b3] | skip)
     have H' := Aside0.mk H
     clear H
     go_wp2
     go_meet
     case rel => exact ⟨_, H', ⟨by have := HJ3.out; first | omega | exact Nat.le_refl _⟩, ⟨rm_ HO820.out⟩, ⟨rm_ HO823.out⟩, ⟨rm_ HO826.out⟩, ⟨bq_ BK804.out⟩, ⟨bq_ BK827.out⟩, ⟨hb_ HB.out⟩⟩
   case rest =>
    clear HC13
    (try clear c1); (try clear c2); (try clear p2); (try clear c3); (try clear c8); (try clear c8b0); (try clear c15); (try clear c16); (try clear c17); (try clear c18); (try clear c23); (try clear c29); (try clear c29b0); (try clear c29b1); (try clear c29b2); (try clear hcz14_0); (try clear hcz14_1); (try clear hcz14_2); (try clear hcz14_3); (try clear hcz20_0); (try clear hcz20_1); (try clear hcz20_2); (try clear hcz20_3); (try clear hcz24_0); (try clear hcz24_1); (try clear hcz24_2); (try clear hcz24_3); (try clear hcz6_0); (try clear hcz6_1); (try clear hcz6_2); (try clear hcz6_3); (try clear hfz14_0); (try clear hfz14_1); (try clear hfz14_2); (try clear hfz14_3); (try clear hfz20_0); (try clear hfz20_1); (try clear hfz20_2); (try clear hfz20_3); (try clear hfz24_0); (try clear hfz24_1); (try clear hfz24_2); (try clear hfz24_3); (try clear hfz6_0); (try clear hfz6_1); (try clear hfz6_2); (try clear hfz6_3); (try clear p2)
    obtain ⟨kq, HA, HJ12, HO_828001, HO_828002, HO_828003, BK804, BK827, HB⟩ := hcut
    cases kq with
    | zero => exact absurd HA.out (by simp [laws_FnExactGroupOk.j1])
    | succ kj12 =>
     have H := HA.out
     clear HA
     simp only [laws_FnExactGroupOk.j1] at H
     replace H := Option.bind_eq_some_iff.mp H
     obtain ⟨⟨t829, t830, t833, t836⟩, A300, H⟩ := H
     replace H : ((laws_eqGroup.f kj12 t817 t818 t821 t824 t829 t830 t833 t836).bind fun t839 => (if t839 = true then (some true) else (some false))) = some r := H
     have A30 := Aside0.mk A300
     clear A300
     replace H := Option.bind_eq_some_iff.mp H
     obtain ⟨t839, A310, H⟩ := H
     replace H : (if t839 = true then (some true) else (some false)) = some r := H
     have A31 := Aside0.mk A310
     clear A310
     by_cases c32 : t839 = true
     ·
      subst c32
      have H1 : (some true) = some r := by rw [if_pos rfl] at H; exact H
      clear H
      have H := H1
      clear H1
      obtain rfl := Option.some.inj H
      try go_wp2
      have n0_ := Aside0.mk (Kd.R_drew HO_828001.out)
      have n1_ := Aside0.mk (Kd.R_drew HO_828002.out)
      have n2_ := Aside0.mk (Kd.R_drew HO_828003.out)
      have n3_ := Aside0.mk (blk_drew BK804.out)
      have n4_ := Aside0.mk (blk_drew BK827.out)
      have n5_ := Aside0.mk (below_drew1 HB.out)
      clear HO_828001; clear HO_828002
      clear HO_828003; clear BK804
      clear BK827; clear HB
      have HO_828001 := n0_
      have HO_828002 := n1_
      have HO_828003 := n2_
      have BK804 := n3_
      have BK827 := n4_
      have HB := n5_
      clear n0_ n1_ n2_ n3_ n4_ n5_
      refine start_ (n := 5) (S := fun w' => w'.cell? ⟨gb827, 0, none⟩ = some (.int .i64 t817) ∧ w'.cell? ⟨gb827, 1, none⟩ = some (.slice Ao25 t818.length co25) ∧ w'.cell? ⟨gb827, 2, none⟩ = some (.slice Ao26 t821.length co26) ∧ w'.cell? ⟨gb827, 3, none⟩ = some (.slice Ao27 t824.length co27) ∧ w'.cell? ⟨gb804, 0, none⟩ = some (.int .i64 a0_0) ∧ w'.cell? ⟨gb804, 1, none⟩ = some (.slice A0_1 l0_1.length c0_1) ∧ w'.cell? ⟨gb804, 2, none⟩ = some (.slice A0_2 l0_2.length c0_2) ∧ w'.cell? ⟨gb804, 3, none⟩ = some (.slice A0_3 l0_3.length c0_3)) (ds := []) #[false, false, false, false, false] (by kernel_rfl) rfl rfl ⟨(blk_cell BK827.out 0).trans rfl, (blk_cell BK827.out 1).trans rfl, (blk_cell BK827.out 2).trans rfl, (blk_cell BK827.out 3).trans rfl, (blk_cell BK804.out 0).trans rfl, (blk_cell BK804.out 1).trans rfl, (blk_cell BK804.out 2).trans rfl, (blk_cell BK804.out 3).trans rfl⟩ (fun hHeld => ?_)
      generalize wc.drew = w33 at HO_828001 HO_828002 HO_828003 BK804 BK827 HB hHeld ⊢
      refine take_ (i := 0) (N := some 26) (v := ?_) (a' := ?_) #[true, false, false, false, false] rfl rfl (by kernel_rfl) (fun _ _ _ h => h) (Or.inl ⟨by rfl, ?_⟩) hHeld ?_ ?_
      rotate_left
      ·
       rintro w' ⟨s0, s1, s2, s3, s4, s5, s6, s7⟩
       go_simp
       with_reducible rfl
      rotate_left; (focus simp only [Act.put, List.setIfInBounds_toArray, List.set_cons_zero, List.set_cons_succ, i64_w, i32_w]; rfl)
      refine take_ (i := 1) (N := some 27) (v := ?_) (a' := ?_) #[true, true, false, false, false] rfl rfl (by kernel_rfl) (fun _ _ _ h => h) (Or.inl ⟨by rfl, ?_⟩) hHeld ?_ ?_
      rotate_left
      ·
       rintro w' ⟨s0, s1, s2, s3, s4, s5, s6, s7⟩
       go_simp
       with_reducible rfl
      rotate_left; (focus simp only [Act.put, List.setIfInBounds_toArray, List.set_cons_zero, List.set_cons_succ, i64_w, i32_w]; rfl)
      refine one_ (i := 2) (N := some 28) #[true, true, true, false, false] rfl rfl (by kernel_rfl) (by decide) (fun K hK => ?_)
      refine goes_ Try.func17 (by kernel_rfl) rfl #[.agg #[.int .i64 a0_0, .slice A0_1 l0_1.length c0_1, .slice A0_2 l0_2.length c0_2, .slice A0_3 l0_3.length c0_3]] (by rfl) rfl rfl sm_ ?_
      with_reducible refine (laws_toGroup.calls kj12 a0_0 _ _ l0_1 _ _ l0_2 _ _ l0_3 t829 t830 t833 t836 _ ?side1 ?side2 ?side3 ?side4 ?side5 ?side6 A30.out).mono ?_
      (case side1 => repeat (first | exact (Kd.C_below HR0_1.out HB.out) | (with_reducible refine Kd.C_alloc ?_ _) | (with_reducible refine Kd.C_drewN ?_ _) | (with_reducible refine Kd.C_drew ?_)))
      (case side2 => exact HC0_1.out)
      (case side3 => repeat (first | exact (Kd.C_below HR0_2.out HB.out) | (with_reducible refine Kd.C_alloc ?_ _) | (with_reducible refine Kd.C_drewN ?_ _) | (with_reducible refine Kd.C_drew ?_)))
      (case side4 => exact HC0_2.out)
      (case side5 => repeat (first | exact (Kd.C_below HR0_3.out HB.out) | (with_reducible refine Kd.C_alloc ?_ _) | (with_reducible refine Kd.C_drewN ?_ _) | (with_reducible refine Kd.C_drew ?_)))
      (case side6 => exact HC0_3.out)
      rintro e w34 ⟨v831, v834, v837, rfl, ho0, ho1, ho2, hb⟩
      refine ⟨_, rfl, ?_⟩
      have n0_ := Aside0.mk (Kd.R_mono (Kd.R_told (Kd.R_told (Kd.R_told (Kd.R_old (rq_ HO_828001.out) hb) (Kd.R_base ho0)) (Kd.R_base ho1)) (Kd.R_base ho2)) (fun _ h_ => h_.1))
      have n1_ := Aside0.mk (Kd.R_mono (Kd.R_told (Kd.R_told (Kd.R_told (Kd.R_old (rq_ HO_828002.out) hb) (Kd.R_base ho0)) (Kd.R_base ho1)) (Kd.R_base ho2)) (fun _ h_ => h_.1))
      have n2_ := Aside0.mk (Kd.R_mono (Kd.R_told (Kd.R_told (Kd.R_told (Kd.R_old (rq_ HO_828003.out) hb) (Kd.R_base ho0)) (Kd.R_base ho1)) (Kd.R_base ho2)) (fun _ h_ => h_.1))
      have n3_ := Aside0.mk (Kd.R_lower (Kd.R_new' (Kd.R_new' (Kd.R_new' ho0 (Kd.R_lt (rq_ HO_828001.out))) (Kd.R_lt (rq_ HO_828002.out))) (Kd.R_lt (rq_ HO_828003.out))) (below_size (hb_ HB.out)))
      have n4_ := Aside0.mk (Kd.R_lower (Kd.R_new' (Kd.R_new' (Kd.R_new' ho1 (Kd.R_lt (rq_ HO_828001.out))) (Kd.R_lt (rq_ HO_828002.out))) (Kd.R_lt (rq_ HO_828003.out))) (below_size (hb_ HB.out)))
      have n5_ := Aside0.mk (Kd.R_lower (Kd.R_new' (Kd.R_new' (Kd.R_new' ho2 (Kd.R_lt (rq_ HO_828001.out))) (Kd.R_lt (rq_ HO_828002.out))) (Kd.R_lt (rq_ HO_828003.out))) (below_size (hb_ HB.out)))
      have n6_ := Aside0.mk (bb_ BK804.out hb)
      have n7_ := Aside0.mk (bb_ BK827.out hb)
      have n8_ := Aside0.mk (below_step (hb_ HB.out) hb)
      clear HO_828001; clear HO_828002
      clear HO_828003; clear BK804
      clear BK827; clear HB
      have HO_828001 := n0_
      have HO_828002 := n1_
      have HO_828003 := n2_
      have HO832 := n3_
      have HO835 := n4_
      have HO838 := n5_
      have BK804 := n6_
      have BK827 := n7_
      have HB := n8_
      clear n0_ n1_ n2_ n3_ n4_ n5_ n6_ n7_ n8_
      (try clear hb)
      (try clear hb2)
      (try clear hk)
      (try clear hi)
      (try clear ho0)
      (try clear ho1)
      (try clear ho2)
      obtain ⟨Ao35, co35, eo35⟩ := Kd.R_slice HO832.out
      (first | subst eo35 | (injection eo35 with f1_ f2_ f3_; have f4_ := f1_.symm; have f5_ := f3_.symm; clear f1_ f2_ f3_; subst f4_; subst f5_))
      obtain ⟨Ao36, co36, eo36⟩ := Kd.R_slice HO835.out
      (first | subst eo36 | (injection eo36 with f1_ f2_ f3_; have f4_ := f1_.symm; have f5_ := f3_.symm; clear f1_ f2_ f3_; subst f4_; subst f5_))
      obtain ⟨Ao37, co37, eo37⟩ := Kd.R_slice HO838.out
      (first | subst eo37 | (injection eo37 with f1_ f2_ f3_; have f4_ := f1_.symm; have f5_ := f3_.symm; clear f1_ f2_ f3_; subst f4_; subst f5_))
      refine hK.out _ _ ⟨(blk_cell BK827.out 0).trans rfl, (blk_cell BK827.out 1).trans rfl, (blk_cell BK827.out 2).trans rfl, (blk_cell BK827.out 3).trans rfl, (blk_cell BK804.out 0).trans rfl, (blk_cell BK804.out 1).trans rfl, (blk_cell BK804.out 2).trans rfl, (blk_cell BK804.out 3).trans rfl⟩ (fun hHeld => ?_)
      clear hK K
      refine norm_ (a' := ?_) ?_ ?_
      rotate_left
      ·
       show Act.put _ (some 28) _ = _
       simp only [Act.put, List.setIfInBounds_toArray, List.set_cons_zero, List.set_cons_succ, i64_w, i32_w]
       rfl
      refine one_ (i := 3) (N := some 29) #[true, true, true, true, false] rfl rfl (by kernel_rfl) (by decide) (fun K hK => ?_)
      refine goes_ Try.func19 (by kernel_rfl) rfl #[.agg #[.int .i64 t817, .slice Ao25 t818.length co25, .slice Ao26 t821.length co26, .slice Ao27 t824.length co27], .agg #[.int .i64 t829, .slice Ao35 t830.length co35, .slice Ao36 t833.length co36, .slice Ao37 t836.length co37]] (by rfl) rfl rfl sm_ ?_
      with_reducible refine (laws_eqGroup.calls kj12 t817 _ _ t818 _ _ t821 _ _ t824 t829 _ _ t830 _ _ t833 _ _ t836 true _ ?side1 ?side2 ?side3 ?side4 ?side5 ?side6 ?side7 ?side8 ?side9 ?side10 ?side11 ?side12 A31.out).mono ?_
      (case side1 => repeat (first | exact (Kd.R_reads' HO_828001.out).2.2 | (with_reducible refine Kd.C_alloc ?_ _) | (with_reducible refine Kd.C_drewN ?_ _) | (with_reducible refine Kd.C_drew ?_)))
      (case side2 => exact (Kd.R_reads' HO_828001.out).2.1)
      (case side3 => repeat (first | exact (Kd.R_reads' HO_828002.out).2.2 | (with_reducible refine Kd.C_alloc ?_ _) | (with_reducible refine Kd.C_drewN ?_ _) | (with_reducible refine Kd.C_drew ?_)))
      (case side4 => exact (Kd.R_reads' HO_828002.out).2.1)
      (case side5 => repeat (first | exact (Kd.R_reads' HO_828003.out).2.2 | (with_reducible refine Kd.C_alloc ?_ _) | (with_reducible refine Kd.C_drewN ?_ _) | (with_reducible refine Kd.C_drew ?_)))
      (case side6 => exact (Kd.R_reads' HO_828003.out).2.1)
      (case side7 => repeat (first | exact (Kd.R_reads' HO832.out).2.2 | (with_reducible refine Kd.C_alloc ?_ _) | (with_reducible refine Kd.C_drewN ?_ _) | (with_reducible refine Kd.C_drew ?_)))
      (case side8 => exact (Kd.R_reads' HO832.out).2.1)
      (case side9 => repeat (first | exact (Kd.R_reads' HO835.out).2.2 | (with_reducible refine Kd.C_alloc ?_ _) | (with_reducible refine Kd.C_drewN ?_ _) | (with_reducible refine Kd.C_drew ?_)))
      (case side10 => exact (Kd.R_reads' HO835.out).2.1)
      (case side11 => repeat (first | exact (Kd.R_reads' HO838.out).2.2 | (with_reducible refine Kd.C_alloc ?_ _) | (with_reducible refine Kd.C_drewN ?_ _) | (with_reducible refine Kd.C_drew ?_)))
      (case side12 => exact (Kd.R_reads' HO838.out).2.1)
      rintro e w38 ⟨rfl, hb⟩
      refine ⟨_, rfl, ?_⟩
      have n0_ := Aside0.mk (Kd.R_below (rq_ HO_828001.out) hb)
      have n1_ := Aside0.mk (Kd.R_below (rq_ HO_828002.out) hb)
      have n2_ := Aside0.mk (Kd.R_below (rq_ HO_828003.out) hb)
      have n3_ := Aside0.mk (Kd.R_below (rq_ HO832.out) hb)
      have n4_ := Aside0.mk (Kd.R_below (rq_ HO835.out) hb)
      have n5_ := Aside0.mk (Kd.R_below (rq_ HO838.out) hb)
      have n6_ := Aside0.mk (bb_ BK804.out hb)
      have n7_ := Aside0.mk (bb_ BK827.out hb)
      have n8_ := Aside0.mk (below_step (hb_ HB.out) hb)
      clear HO_828001; clear HO_828002
      clear HO_828003; clear HO832
      clear HO835; clear HO838
      clear BK804; clear BK827
      clear HB
      have HO_828001 := n0_
      have HO_828002 := n1_
      have HO_828003 := n2_
      have HO832 := n3_
      have HO835 := n4_
      have HO838 := n5_
      have BK804 := n6_
      have BK827 := n7_
      have HB := n8_
      clear n0_ n1_ n2_ n3_ n4_ n5_ n6_ n7_ n8_
      (try clear hb)
      (try clear hb2)
      (try clear hk)
      (try clear hi)
      refine hK.out _ _ ⟨(blk_cell BK827.out 0).trans rfl, (blk_cell BK827.out 1).trans rfl, (blk_cell BK827.out 2).trans rfl, (blk_cell BK827.out 3).trans rfl, (blk_cell BK804.out 0).trans rfl, (blk_cell BK804.out 1).trans rfl, (blk_cell BK804.out 2).trans rfl, (blk_cell BK804.out 3).trans rfl⟩ (fun hHeld => ?_)
      clear hK K
      refine norm_ (a' := ?_) ?_ ?_
      rotate_left
      ·
       show Act.put _ (some 29) _ = _
       simp only [Act.put, List.setIfInBounds_toArray, List.set_cons_zero, List.set_cons_succ, i64_w, i32_w]
       rfl
      refine pure_ (i := 4) (N := some 30) (v := ?_) (a' := ?_) #[true, true, true, true, true] rfl rfl (by kernel_rfl) (fun _ _ _ h => h) (Or.inl ⟨by rfl, ?_⟩) ?_ ?_; rotate_left; (focus intro w'; go_simp; with_reducible rfl); rotate_left; (focus simp only [Act.put, List.setIfInBounds_toArray, List.set_cons_zero, List.set_cons_succ, i64_w, i32_w]; rfl)
      refine done_ (by kernel_rfl) ?_
      try go_wp2
      go_ret
      exact ⟨er_, hb_ HB.out⟩
     ·
      replace c32 := Bool.eq_false_iff.mpr c32
      subst c32
      have H1 : (some false) = some r := by rw [if_neg (show ¬ (false = true) by decide)] at H; exact H
      clear H
      have H := H1
      clear H1
      obtain rfl := Option.some.inj H
      try go_wp2
      have n0_ := Aside0.mk (Kd.R_drew HO_828001.out)
      have n1_ := Aside0.mk (Kd.R_drew HO_828002.out)
      have n2_ := Aside0.mk (Kd.R_drew HO_828003.out)
      have n3_ := Aside0.mk (blk_drew BK804.out)
      have n4_ := Aside0.mk (blk_drew BK827.out)
      have n5_ := Aside0.mk (below_drew1 HB.out)
      clear HO_828001; clear HO_828002
      clear HO_828003; clear BK804
      clear BK827; clear HB
      have HO_828001 := n0_
      have HO_828002 := n1_
      have HO_828003 := n2_
      have BK804 := n3_
      have BK827 := n4_
      have HB := n5_
      clear n0_ n1_ n2_ n3_ n4_ n5_
      refine start_ (n := 5) (S := fun w' => w'.cell? ⟨gb827, 0, none⟩ = some (.int .i64 t817) ∧ w'.cell? ⟨gb827, 1, none⟩ = some (.slice Ao25 t818.length co25) ∧ w'.cell? ⟨gb827, 2, none⟩ = some (.slice Ao26 t821.length co26) ∧ w'.cell? ⟨gb827, 3, none⟩ = some (.slice Ao27 t824.length co27) ∧ w'.cell? ⟨gb804, 0, none⟩ = some (.int .i64 a0_0) ∧ w'.cell? ⟨gb804, 1, none⟩ = some (.slice A0_1 l0_1.length c0_1) ∧ w'.cell? ⟨gb804, 2, none⟩ = some (.slice A0_2 l0_2.length c0_2) ∧ w'.cell? ⟨gb804, 3, none⟩ = some (.slice A0_3 l0_3.length c0_3)) (ds := []) #[false, false, false, false, false] (by kernel_rfl) rfl rfl ⟨(blk_cell BK827.out 0).trans rfl, (blk_cell BK827.out 1).trans rfl, (blk_cell BK827.out 2).trans rfl, (blk_cell BK827.out 3).trans rfl, (blk_cell BK804.out 0).trans rfl, (blk_cell BK804.out 1).trans rfl, (blk_cell BK804.out 2).trans rfl, (blk_cell BK804.out 3).trans rfl⟩ (fun hHeld => ?_)
      generalize wc.drew = w39 at HO_828001 HO_828002 HO_828003 BK804 BK827 HB hHeld ⊢
      refine take_ (i := 0) (N := some 26) (v := ?_) (a' := ?_) #[true, false, false, false, false] rfl rfl (by kernel_rfl) (fun _ _ _ h => h) (Or.inl ⟨by rfl, ?_⟩) hHeld ?_ ?_
      rotate_left
      ·
       rintro w' ⟨s0, s1, s2, s3, s4, s5, s6, s7⟩
       go_simp
       with_reducible rfl
      rotate_left; (focus simp only [Act.put, List.setIfInBounds_toArray, List.set_cons_zero, List.set_cons_succ, i64_w, i32_w]; rfl)
      refine take_ (i := 1) (N := some 27) (v := ?_) (a' := ?_) #[true, true, false, false, false] rfl rfl (by kernel_rfl) (fun _ _ _ h => h) (Or.inl ⟨by rfl, ?_⟩) hHeld ?_ ?_
      rotate_left
      ·
       rintro w' ⟨s0, s1, s2, s3, s4, s5, s6, s7⟩
       go_simp
       with_reducible rfl
      rotate_left; (focus simp only [Act.put, List.setIfInBounds_toArray, List.set_cons_zero, List.set_cons_succ, i64_w, i32_w]; rfl)
      refine one_ (i := 2) (N := some 28) #[true, true, true, false, false] rfl rfl (by kernel_rfl) (by decide) (fun K hK => ?_)
      refine goes_ Try.func17 (by kernel_rfl) rfl #[.agg #[.int .i64 a0_0, .slice A0_1 l0_1.length c0_1, .slice A0_2 l0_2.length c0_2, .slice A0_3 l0_3.length c0_3]] (by rfl) rfl rfl sm_ ?_
      with_reducible refine (laws_toGroup.calls kj12 a0_0 _ _ l0_1 _ _ l0_2 _ _ l0_3 t829 t830 t833 t836 _ ?side1 ?side2 ?side3 ?side4 ?side5 ?side6 A30.out).mono ?_
      (case side1 => repeat (first | exact (Kd.C_below HR0_1.out HB.out) | (with_reducible refine Kd.C_alloc ?_ _) | (with_reducible refine Kd.C_drewN ?_ _) | (with_reducible refine Kd.C_drew ?_)))
      (case side2 => exact HC0_1.out)
      (case side3 => repeat (first | exact (Kd.C_below HR0_2.out HB.out) | (with_reducible refine Kd.C_alloc ?_ _) | (with_reducible refine Kd.C_drewN ?_ _) | (with_reducible refine Kd.C_drew ?_)))
      (case side4 => exact HC0_2.out)
      (case side5 => repeat (first | exact (Kd.C_below HR0_3.out HB.out) | (with_reducible refine Kd.C_alloc ?_ _) | (with_reducible refine Kd.C_drewN ?_ _) | (with_reducible refine Kd.C_drew ?_)))
      (case side6 => exact HC0_3.out)
      rintro e w40 ⟨v831, v834, v837, rfl, ho0, ho1, ho2, hb⟩
      refine ⟨_, rfl, ?_⟩
      have n0_ := Aside0.mk (Kd.R_mono (Kd.R_told (Kd.R_told (Kd.R_told (Kd.R_old (rq_ HO_828001.out) hb) (Kd.R_base ho0)) (Kd.R_base ho1)) (Kd.R_base ho2)) (fun _ h_ => h_.1))
      have n1_ := Aside0.mk (Kd.R_mono (Kd.R_told (Kd.R_told (Kd.R_told (Kd.R_old (rq_ HO_828002.out) hb) (Kd.R_base ho0)) (Kd.R_base ho1)) (Kd.R_base ho2)) (fun _ h_ => h_.1))
      have n2_ := Aside0.mk (Kd.R_mono (Kd.R_told (Kd.R_told (Kd.R_told (Kd.R_old (rq_ HO_828003.out) hb) (Kd.R_base ho0)) (Kd.R_base ho1)) (Kd.R_base ho2)) (fun _ h_ => h_.1))
      have n3_ := Aside0.mk (Kd.R_lower (Kd.R_new' (Kd.R_new' (Kd.R_new' ho0 (Kd.R_lt (rq_ HO_828001.out))) (Kd.R_lt (rq_ HO_828002.out))) (Kd.R_lt (rq_ HO_828003.out))) (below_size (hb_ HB.out)))
      have n4_ := Aside0.mk (Kd.R_lower (Kd.R_new' (Kd.R_new' (Kd.R_new' ho1 (Kd.R_lt (rq_ HO_828001.out))) (Kd.R_lt (rq_ HO_828002.out))) (Kd.R_lt (rq_ HO_828003.out))) (below_size (hb_ HB.out)))
      have n5_ := Aside0.mk (Kd.R_lower (Kd.R_new' (Kd.R_new' (Kd.R_new' ho2 (Kd.R_lt (rq_ HO_828001.out))) (Kd.R_lt (rq_ HO_828002.out))) (Kd.R_lt (rq_ HO_828003.out))) (below_size (hb_ HB.out)))
      have n6_ := Aside0.mk (bb_ BK804.out hb)
      have n7_ := Aside0.mk (bb_ BK827.out hb)
      have n8_ := Aside0.mk (below_step (hb_ HB.out) hb)
      clear HO_828001; clear HO_828002
      clear HO_828003; clear BK804
      clear BK827; clear HB
      have HO_828001 := n0_
      have HO_828002 := n1_
      have HO_828003 := n2_
      have HO832 := n3_
      have HO835 := n4_
      have HO838 := n5_
      have BK804 := n6_
      have BK827 := n7_
      have HB := n8_
      clear n0_ n1_ n2_ n3_ n4_ n5_ n6_ n7_ n8_
      (try clear hb)
      (try clear hb2)
      (try clear hk)
      (try clear hi)
      (try clear ho0)
      (try clear ho1)
      (try clear ho2)
      obtain ⟨Ao41, co41, eo41⟩ := Kd.R_slice HO832.out
      (first | subst eo41 | (injection eo41 with f1_ f2_ f3_; have f4_ := f1_.symm; have f5_ := f3_.symm; clear f1_ f2_ f3_; subst f4_; subst f5_))
      obtain ⟨Ao42, co42, eo42⟩ := Kd.R_slice HO835.out
      (first | subst eo42 | (injection eo42 with f1_ f2_ f3_; have f4_ := f1_.symm; have f5_ := f3_.symm; clear f1_ f2_ f3_; subst f4_; subst f5_))
      obtain ⟨Ao43, co43, eo43⟩ := Kd.R_slice HO838.out
      (first | subst eo43 | (injection eo43 with f1_ f2_ f3_; have f4_ := f1_.symm; have f5_ := f3_.symm; clear f1_ f2_ f3_; subst f4_; subst f5_))
      refine hK.out _ _ ⟨(blk_cell BK827.out 0).trans rfl, (blk_cell BK827.out 1).trans rfl, (blk_cell BK827.out 2).trans rfl, (blk_cell BK827.out 3).trans rfl, (blk_cell BK804.out 0).trans rfl, (blk_cell BK804.out 1).trans rfl, (blk_cell BK804.out 2).trans rfl, (blk_cell BK804.out 3).trans rfl⟩ (fun hHeld => ?_)
      clear hK K
      refine norm_ (a' := ?_) ?_ ?_
      rotate_left
      ·
       show Act.put _ (some 28) _ = _
       simp only [Act.put, List.setIfInBounds_toArray, List.set_cons_zero, List.set_cons_succ, i64_w, i32_w]
       rfl
      refine one_ (i := 3) (N := some 29) #[true, true, true, true, false] rfl rfl (by kernel_rfl) (by decide) (fun K hK => ?_)
      refine goes_ Try.func19 (by kernel_rfl) rfl #[.agg #[.int .i64 t817, .slice Ao25 t818.length co25, .slice Ao26 t821.length co26, .slice Ao27 t824.length co27], .agg #[.int .i64 t829, .slice Ao41 t830.length co41, .slice Ao42 t833.length co42, .slice Ao43 t836.length co43]] (by rfl) rfl rfl sm_ ?_
      with_reducible refine (laws_eqGroup.calls kj12 t817 _ _ t818 _ _ t821 _ _ t824 t829 _ _ t830 _ _ t833 _ _ t836 false _ ?side1 ?side2 ?side3 ?side4 ?side5 ?side6 ?side7 ?side8 ?side9 ?side10 ?side11 ?side12 A31.out).mono ?_
      (case side1 => repeat (first | exact (Kd.R_reads' HO_828001.out).2.2 | (with_reducible refine Kd.C_alloc ?_ _) | (with_reducible refine Kd.C_drewN ?_ _) | (with_reducible refine Kd.C_drew ?_)))
      (case side2 => exact (Kd.R_reads' HO_828001.out).2.1)
      (case side3 => repeat (first | exact (Kd.R_reads' HO_828002.out).2.2 | (with_reducible refine Kd.C_alloc ?_ _) | (with_reducible refine Kd.C_drewN ?_ _) | (with_reducible refine Kd.C_drew ?_)))
      (case side4 => exact (Kd.R_reads' HO_828002.out).2.1)
      (case side5 => repeat (first | exact (Kd.R_reads' HO_828003.out).2.2 | (with_reducible refine Kd.C_alloc ?_ _) | (with_reducible refine Kd.C_drewN ?_ _) | (with_reducible refine Kd.C_drew ?_)))
      (case side6 => exact (Kd.R_reads' HO_828003.out).2.1)
      (case side7 => repeat (first | exact (Kd.R_reads' HO832.out).2.2 | (with_reducible refine Kd.C_alloc ?_ _) | (with_reducible refine Kd.C_drewN ?_ _) | (with_reducible refine Kd.C_drew ?_)))
      (case side8 => exact (Kd.R_reads' HO832.out).2.1)
      (case side9 => repeat (first | exact (Kd.R_reads' HO835.out).2.2 | (with_reducible refine Kd.C_alloc ?_ _) | (with_reducible refine Kd.C_drewN ?_ _) | (with_reducible refine Kd.C_drew ?_)))
      (case side10 => exact (Kd.R_reads' HO835.out).2.1)
      (case side11 => repeat (first | exact (Kd.R_reads' HO838.out).2.2 | (with_reducible refine Kd.C_alloc ?_ _) | (with_reducible refine Kd.C_drewN ?_ _) | (with_reducible refine Kd.C_drew ?_)))
      (case side12 => exact (Kd.R_reads' HO838.out).2.1)
      rintro e w44 ⟨rfl, hb⟩
      refine ⟨_, rfl, ?_⟩
      have n0_ := Aside0.mk (Kd.R_below (rq_ HO_828001.out) hb)
      have n1_ := Aside0.mk (Kd.R_below (rq_ HO_828002.out) hb)
      have n2_ := Aside0.mk (Kd.R_below (rq_ HO_828003.out) hb)
      have n3_ := Aside0.mk (Kd.R_below (rq_ HO832.out) hb)
      have n4_ := Aside0.mk (Kd.R_below (rq_ HO835.out) hb)
      have n5_ := Aside0.mk (Kd.R_below (rq_ HO838.out) hb)
      have n6_ := Aside0.mk (bb_ BK804.out hb)
      have n7_ := Aside0.mk (bb_ BK827.out hb)
      have n8_ := Aside0.mk (below_step (hb_ HB.out) hb)
      clear HO_828001; clear HO_828002
      clear HO_828003; clear HO832
      clear HO835; clear HO838
      clear BK804; clear BK827
      clear HB
      have HO_828001 := n0_
      have HO_828002 := n1_
      have HO_828003 := n2_
      have HO832 := n3_
      have HO835 := n4_
      have HO838 := n5_
      have BK804 := n6_
      have BK827 := n7_
      have HB := n8_
      clear n0_ n1_ n2_ n3_ n4_ n5_ n6_ n7_ n8_
      (try clear hb)
      (try clear hb2)
      (try clear hk)
      (try clear hi)
      refine hK.out _ _ ⟨(blk_cell BK827.out 0).trans rfl, (blk_cell BK827.out 1).trans rfl, (blk_cell BK827.out 2).trans rfl, (blk_cell BK827.out 3).trans rfl, (blk_cell BK804.out 0).trans rfl, (blk_cell BK804.out 1).trans rfl, (blk_cell BK804.out 2).trans rfl, (blk_cell BK804.out 3).trans rfl⟩ (fun hHeld => ?_)
      clear hK K
      refine norm_ (a' := ?_) ?_ ?_
      rotate_left
      ·
       show Act.put _ (some 29) _ = _
       simp only [Act.put, List.setIfInBounds_toArray, List.set_cons_zero, List.set_cons_succ, i64_w, i32_w]
       rfl
      refine pure_ (i := 4) (N := some 30) (v := ?_) (a' := ?_) #[true, true, true, true, true] rfl rfl (by kernel_rfl) (fun _ _ _ h => h) (Or.inl ⟨by rfl, ?_⟩) ?_ ?_; rotate_left; (focus intro w'; go_simp; with_reducible rfl); rotate_left; (focus simp only [Act.put, List.setIfInBounds_toArray, List.set_cons_zero, List.set_cons_succ, i64_w, i32_w]; rfl)
      refine done_ (by kernel_rfl) ?_
      try go_wp2
      go_ret
      exact ⟨er_, hb_ HB.out⟩
end Go.Proofs.Ytgkeapbeogmfjaa.Q
